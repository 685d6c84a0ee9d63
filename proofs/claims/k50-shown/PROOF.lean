import PyProof.Rows.All
import HandS.Text
import Wide.All
import OpenK.AllK
import Wide.FinOn
import PyProof.StrOps2
import PyProof.StrBlock2
import KE.KTryMore
import HandS.ForMost
import HandS.ForExc
import HandS.TryMany
import HandS.ExcInit
import HandS.ExcField
import HandS.ClsMeth
import HandS.SortInts
import HandS.More
import HandS.IsInst
import HandS.Rev
import HandS.Wide
import HandS.Deep
import HandS.Conv
import HandS.Walk
import HandS.LawCells
import HandS.OwnEq
import HandS.Ends
import PySem.Challenge.RW_papervault_k50_shown_where_the_keeper_fa
set_option Elab.async false
set_option linter.all false
set_option maxRecDepth 100000
set_option maxHeartbeats 8000000
/-! M1: things, their codes, seals, order; trees and what put, cut, part and join make, read and lay. No program here. -/
namespace PV
open PySem

/-- a thing -/
inductive T where
  | non
  | int (i : Int)
  | str (s : Str)
  | tup (l : List T)

mutual
def T.py : T → PyData
  | .non => .none
  | .int i => .int i
  | .str s => .str s
  | .tup l => .tuple (T.pys l)
def T.pys : List T → List PyData
  | [] => []
  | t :: l => t.py :: T.pys l
end
mutual
theorem eqv_iff : ∀ t u : T, PyData.eqv t.py u.py = true ↔ t = u
  | .non, .non => by simp [T.py, PyData.eqv]
  | .non, .int _ => by simp [T.py, PyData.eqv]
  | .non, .str _ => by simp [T.py, PyData.eqv]
  | .non, .tup _ => by simp [T.py, PyData.eqv]
  | .int _, .non => by simp [T.py, PyData.eqv]
  | .int i, .int j => by simp [T.py, PyData.eqv]
  | .int _, .str _ => by simp [T.py, PyData.eqv]
  | .int _, .tup _ => by simp [T.py, PyData.eqv]
  | .str _, .non => by simp [T.py, PyData.eqv]
  | .str _, .int _ => by simp [T.py, PyData.eqv]
  | .str x, .str y => by simp [T.py, PyData.eqv]
  | .str _, .tup _ => by simp [T.py, PyData.eqv]
  | .tup _, .non => by simp [T.py, PyData.eqv]
  | .tup _, .int _ => by simp [T.py, PyData.eqv]
  | .tup _, .str _ => by simp [T.py, PyData.eqv]
  | .tup l, .tup m => by
    rw [T.py, T.py, PyData.eqv, eqvs_iff l m]
    exact ⟨fun h => by rw [h], fun h => T.tup.inj h⟩
theorem eqvs_iff : ∀ l m : List T, PyData.eqvAll (T.pys l) (T.pys m) = true ↔ l = m
  | [], [] => by simp [T.pys, PyData.eqvAll]
  | [], _ :: _ => by simp [T.pys, PyData.eqvAll]
  | _ :: _, [] => by simp [T.pys, PyData.eqvAll]
  | t :: l, u :: m => by
    rw [T.pys, T.pys, PyData.eqvAll, Bool.and_eq_true, eqv_iff t u, eqvs_iff l m, List.cons.injEq]
end
instance : DecidableEq T := fun t u => decidable_of_iff _ (eqv_iff t u)
theorem eqv_dec (t u : T) : PyData.eqv t.py u.py = decide (t = u) := by
  by_cases h : t = u
  · rw [decide_eq_true h]; exact (eqv_iff t u).mpr h
  · rw [decide_eq_false h]
    cases e : PyData.eqv t.py u.py with
    | false => rfl
    | true => exact absurd ((eqv_iff t u).mp e) h
theorem eqvs_dec (t u : List T) : PyData.eqvAll (T.pys t) (T.pys u) = decide (t = u) := by
  by_cases h : t = u
  · rw [decide_eq_true h]; exact (eqvs_iff t u).mpr h
  · rw [decide_eq_false h]
    cases e : PyData.eqvAll (T.pys t) (T.pys u) with
    | false => rfl
    | true => exact absurd ((eqvs_iff t u).mp e) h

/-! ### which things -/
abbrev MOSTN : Int := 1000000000000000000000000000000
def okC (c : Nat) : Bool := decide (32 ≤ c) && decide (c ≤ 126) && !decide (c = 37)
def okS (s : Str) : Bool := decide (s.length ≤ 60) && s.cps.toList.all okC
mutual
def T.within : T → Nat → Bool
  | .non, _ => true
  | .int i, _ => decide (-MOSTN ≤ i) && decide (i ≤ MOSTN)
  | .str s, _ => okS s
  | .tup l, n => decide (0 < n) && decide (l.length ≤ 40) && T.withins l (n - 1)
def T.withins : List T → Nat → Bool
  | [], _ => true
  | t :: l, n => t.within n && T.withins l n
end
mutual
theorem within_mono : ∀ (t : T) {n m : Nat}, n ≤ m → t.within n = true → t.within m = true
  | .non, _, _, _, _ => rfl
  | .int i, _, _, _, h => h
  | .str s, _, _, _, h => h
  | .tup l, n, m, h, q => by
    simp only [T.within, Bool.and_eq_true, decide_eq_true_eq] at q ⊢
    exact ⟨⟨by omega, q.1.2⟩, withins_mono l (by omega) q.2⟩
theorem withins_mono : ∀ (l : List T) {n m : Nat}, n ≤ m → T.withins l n = true → T.withins l m = true
  | [], _, _, _, _ => rfl
  | t :: l, n, m, h, q => by
    simp only [T.withins, Bool.and_eq_true] at q ⊢
    exact ⟨within_mono t h q.1, withins_mono l h q.2⟩
end
theorem withins_mem : ∀ {l : List T} {n : Nat}, T.withins l n = true → ∀ t ∈ l, t.within n = true
  | [], _, _, _, h => by cases h
  | u :: l, n, q, t, h => by
    simp only [T.withins, Bool.and_eq_true] at q
    rcases List.mem_cons.mp h with e | h
    · rw [e]; exact q.1
    · exact withins_mem q.2 t h
theorem withins_of : ∀ {l : List T} {n : Nat}, (∀ t ∈ l, t.within n = true) → T.withins l n = true
  | [], _, _ => rfl
  | u :: l, n, h => by
    simp only [T.withins, Bool.and_eq_true]
    exact ⟨h u List.mem_cons_self, withins_of fun t ht => h t (List.mem_cons_of_mem _ ht)⟩
/-- what may be laid -/
abbrev T.ok (t : T) : Prop := t.within 2 = true

/-! shaped, for == -/
theorem strOk_of {s : Str} (h : okS s = true) : PyData.strOk s = true := by
  simp only [okS, Bool.and_eq_true, List.all_eq_true] at h
  unfold PyData.strOk
  rw [Array.all_eq_true]
  intro i hi
  have q := h.2 (s.cps[i]) (by simp)
  simp only [okC, Bool.and_eq_true, decide_eq_true_eq] at q
  simp only [decide_eq_true_eq]
  omega
mutual
theorem lay_of : ∀ (t : T) {n : Nat}, t.within n = true → PyData.canLay0 t.py = true
  | .non, _, _ => rfl
  | .int i, _, _ => rfl
  | .str s, _, h => strOk_of h
  | .tup l, n, q => by
    simp only [T.within, Bool.and_eq_true] at q
    exact lays_of l q.2
theorem lays_of : ∀ (l : List T) {n : Nat}, T.withins l n = true → PyData.canLayAll0 (T.pys l) = true
  | [], _, _ => rfl
  | t :: l, n, q => by
    simp only [T.withins, Bool.and_eq_true] at q
    rw [T.pys, PyData.canLayAll0, lay_of t q.1, lays_of l q.2]
    rfl
end
mutual
theorem depth_of : ∀ (t : T) {n : Nat}, t.within n = true → PyData.depth t.py ≤ n
  | .non, _, _ => Nat.zero_le _
  | .int i, _, _ => Nat.zero_le _
  | .str s, _, h => Nat.zero_le _
  | .tup l, n, q => by
    simp only [T.within, Bool.and_eq_true, decide_eq_true_eq] at q
    have h := depths_of l q.2
    simp only [T.py, PyData.depth]
    omega
theorem depths_of : ∀ (l : List T) {n : Nat}, T.withins l n = true → PyData.depthAll (T.pys l) ≤ n
  | [], _, _ => Nat.zero_le _
  | t :: l, n, q => by
    simp only [T.withins, Bool.and_eq_true] at q
    have h1 := depth_of t q.1
    have h2 := depths_of l q.2
    simp only [T.pys, PyData.depthAll]
    omega
end
theorem shaped_of {t : T} {n : Nat} (h : t.within n = true) (hn : n ≤ 60) : SeqAt.shaped t.py = true := by
  have d := depth_of t h
  show (t.py.canLay0 && decide (t.py.depth ≤ 64)) = true
  rw [lay_of t h, Bool.true_and]
  exact decide_eq_true (by omega)
theorem shapeds_of {l : List T} {n : Nat} (h : T.withins l n = true) (hn : n ≤ 60) : SeqAt.shaped (.list (T.pys l)) = true := by
  have d := depths_of l h
  show (PyData.canLay0 (.list (T.pys l)) && decide (PyData.depth (.list (T.pys l)) ≤ 64)) = true
  rw [show PyData.canLay0 (.list (T.pys l)) = PyData.canLayAll0 (T.pys l) from by rw [PyData.canLay0], lays_of l h, Bool.true_and]
  exact decide_eq_true (by simp only [PyData.depth]; omega)

/-! ### codes and seals -/
abbrev MODS : Int := 2305843009213693951
abbrev BAS : Int := 1234567890123456789
abbrev HALFN : Int := 1000000000000000
def chunk (z : List Nat) : Int := z.foldl (fun c s => 128 * c + (s : Nat)) 0
def tcode (s : Str) (i : Nat) : Int := chunk (L2.cutS s (some (0 + (i : Nat) * 7)) (some (0 + (i : Nat) * 7 + 7))).cps.toList
def tcodes (s : Str) : List Int := (List.range ((s.length + 6) / 7)).map (tcode s)
mutual
def T.codes : T → List Int
  | .non => [1]
  | .int n => [2, (n + MOSTN) / HALFN, (n + MOSTN) % HALFN]
  | .str s => 3 :: (s.length : Int) :: tcodes s
  | .tup l => 4 :: (l.length : Int) :: T.codess l
def T.codess : List T → List Int
  | [] => []
  | t :: l => t.codes ++ T.codess l
end
def stepC (h c : Int) : Int := (h * BAS + c) % MODS
def sealOf (t : T) : Int := t.codes.foldl stepC 7 + 1
theorem stepC_lo (h c : Int) : 0 ≤ stepC h c := Int.emod_nonneg _ (by decide)
theorem stepC_hi (h c : Int) : stepC h c < MODS := Int.emod_lt_of_pos _ (by decide)
theorem fold_in : ∀ (cs : List Int) (h : Int), 0 ≤ h → h < MODS → 0 ≤ cs.foldl stepC h ∧ cs.foldl stepC h < MODS
  | [], h, a, b => ⟨a, b⟩
  | c :: cs, h, a, b => fold_in cs _ (stepC_lo h c) (stepC_hi h c)
theorem seal_lo (t : T) : 1 ≤ sealOf t := by
  have h := (fold_in t.codes 7 (by decide) (by decide)).1
  show 1 ≤ t.codes.foldl stepC 7 + 1
  omega
theorem seal_hi (t : T) : sealOf t ≤ MODS := by
  have h := (fold_in t.codes 7 (by decide) (by decide)).2
  show t.codes.foldl stepC 7 + 1 ≤ MODS
  omega
theorem seal_ne (t : T) : sealOf t ≠ 0 := by have := seal_lo t; omega

/-! ### the twin -/
abbrev TW1 : Int := 251530379464423
abbrev TW2 : Int := -1285000000000000000
def twI (i : Int) : Int := if i = TW1 then TW2 else if i = TW2 then TW1 else i
mutual
def T.twin : T → T
  | .non => .non
  | .int i => .int (twI i)
  | .str s => .str s
  | .tup l => .tup (T.twins l)
def T.twins : List T → List T
  | [] => []
  | t :: l => t.twin :: T.twins l
end
theorem twins_map : ∀ l : List T, T.twins l = l.map T.twin
  | [] => rfl
  | t :: l => by rw [T.twins, List.map_cons, twins_map l]
theorem twins_len (l : List T) : (T.twins l).length = l.length := by rw [twins_map, List.length_map]
theorem step_two (x q r : Int) : stepC (stepC x q) r = (x * BAS * BAS + (q * BAS + r)) % MODS := by
  unfold stepC
  have e : (x * BAS + q) % MODS * BAS + r = (x * BAS + q) % MODS * BAS + r := rfl
  rw [Int.add_emod, Int.mul_emod, Int.emod_emod_of_dvd _ (Int.dvd_refl _), ← Int.mul_emod, ← Int.add_emod, Int.add_mul, Int.add_assoc]
theorem twin_int (h i : Int) : (T.codes (.int (twI i))).foldl stepC h = (T.codes (.int i)).foldl stepC h := by
  have key : ∀ x : Int, stepC (stepC x ((TW1 + MOSTN) / HALFN)) ((TW1 + MOSTN) % HALFN) = stepC (stepC x ((TW2 + MOSTN) / HALFN)) ((TW2 + MOSTN) % HALFN) := by
    intro x
    rw [step_two, step_two]
    have e : (TW1 + MOSTN) / HALFN * BAS + (TW1 + MOSTN) % HALFN = (TW2 + MOSTN) / HALFN * BAS + (TW2 + MOSTN) % HALFN + MODS * (((TW1 + MOSTN) / HALFN * BAS + (TW1 + MOSTN) % HALFN - ((TW2 + MOSTN) / HALFN * BAS + (TW2 + MOSTN) % HALFN)) / MODS) := by decide +kernel
    rw [e, ← Int.add_assoc, Int.add_mul_emod_self_left]
  unfold twI
  by_cases h1 : i = TW1
  · rw [if_pos h1, h1]
    exact (key _).symm
  · rw [if_neg h1]
    by_cases h2 : i = TW2
    · rw [if_pos h2, h2]
      exact key _
    · rw [if_neg h2]
mutual
theorem twin_fold : ∀ (t : T) (h : Int), t.twin.codes.foldl stepC h = t.codes.foldl stepC h
  | .non, _ => rfl
  | .int i, h => twin_int h i
  | .str s, _ => rfl
  | .tup l, h => by
    rw [T.twin, T.codes, T.codes, twins_len]
    show (T.codess (T.twins l)).foldl stepC _ = (T.codess l).foldl stepC _
    exact twins_fold l _
theorem twins_fold : ∀ (l : List T) (h : Int), (T.codess (T.twins l)).foldl stepC h = (T.codess l).foldl stepC h
  | [], _ => rfl
  | t :: l, h => by
    rw [T.twins, T.codess, T.codess, List.foldl_append, List.foldl_append, twin_fold t h, twins_fold l]
end
theorem seal_twin (t : T) : sealOf t.twin = sealOf t := by
  unfold sealOf
  rw [twin_fold t 7]
theorem twI_in {i : Int} (h1 : -MOSTN ≤ i) (h2 : i ≤ MOSTN) : -MOSTN ≤ twI i ∧ twI i ≤ MOSTN := by
  unfold twI
  split
  · decide
  · split
    · decide
    · exact ⟨h1, h2⟩
mutual
theorem twin_within : ∀ (t : T) {n : Nat}, t.within n = true → t.twin.within n = true
  | .non, _, _ => rfl
  | .int i, _, h => by
    simp only [T.twin, T.within, Bool.and_eq_true, decide_eq_true_eq] at h ⊢
    exact twI_in h.1 h.2
  | .str s, _, h => h
  | .tup l, n, h => by
    simp only [T.twin, T.within, Bool.and_eq_true, decide_eq_true_eq, twins_len] at h ⊢
    exact ⟨h.1, twins_within l h.2⟩
theorem twins_within : ∀ (l : List T) {n : Nat}, T.withins l n = true → T.withins (T.twins l) n = true
  | [], _, _ => rfl
  | t :: l, n, h => by
    simp only [T.twins, T.withins, Bool.and_eq_true] at h ⊢
    exact ⟨twin_within t h.1, twins_within l h.2⟩
end
end PV
/-! M2: keys, their order; trees; what put, cut, part, join make, read and lay. No program here. -/
namespace PV
open PySem

/-! ### keys -/
def T.keyB : T → Bool
  | .int i => decide (-MOSTN ≤ i) && decide (i ≤ MOSTN)
  | .str s => okS s
  | _ => false
theorem keyB_within {t : T} (h : t.keyB = true) (n : Nat) : t.within n = true := by
  cases t with
  | non => cases h
  | int i => exact h
  | str s => exact h
  | tup l => cases h
theorem keyB_ne {t : T} (h : t.keyB = true) : t ≠ .non := by rintro rfl; cases h
def aheadT : T → T → Bool
  | .int a, .int b => decide (a < b)
  | .str a, .str b => decide (a.cps.toList < b.cps.toList)
  | .int _, .str _ => true
  | _, _ => false
def rankT (k : T) : Int := sealOf (.tup [.str "rank", k])
def aboveT (k o : T) : Bool := decide (rankT o < rankT k) || (decide (rankT k = rankT o) && aheadT k o)

/-! ### trees -/
inductive Tr where
  | nil
  | nd (k w : T) (l r : Tr)
namespace Tr
def size : Tr → Nat
  | .nil => 0
  | .nd _ _ l r => l.size + r.size + 1
def root : Tr → Int
  | .nil => 0
  | .nd k w l r => sealOf (.tup [k, w, .int l.root, .int r.root, .int ((l.size + r.size + 1 : Nat) : Int)])
end Tr
def nt (k w : T) (l r : Tr) : T := .tup [k, w, .int l.root, .int r.root, .int ((l.size + r.size + 1 : Nat) : Int)]
theorem root_nd (k w : T) (l r : Tr) : (Tr.nd k w l r).root = sealOf (nt k w l r) := rfl
theorem size_nd (k w : T) (l r : Tr) : (Tr.nd k w l r).size = l.size + r.size + 1 := rfl
namespace Tr
def th : Tr → T
  | .nil => .non
  | .nd k w l r => nt k w l r
def Ok : Tr → Prop
  | .nil => True
  | .nd k w l r => k.keyB = true ∧ w.within 1 = true ∧ w ≠ .non ∧ l.Ok ∧ r.Ok
def nodes : Tr → List T
  | .nil => []
  | .nd k w l r => nt k w l r :: (l.nodes ++ r.nodes)
end Tr
open Tr
theorem root_eq0 : ∀ {t : Tr}, t.root = 0 → t = .nil
  | .nil, _ => rfl
  | .nd k w l r, h => absurd h (seal_ne _)
theorem root_lo : ∀ t : Tr, 0 ≤ t.root
  | .nil => Int.le_refl _
  | .nd k w l r => by have h := seal_lo (nt k w l r); rw [root_nd]; omega
theorem root_hi : ∀ t : Tr, t.root ≤ MODS
  | .nil => by decide
  | .nd k w l r => seal_hi (nt k w l r)
theorem nt_ok {k w : T} {l r : Tr} (h : (Tr.nd k w l r).Ok) (hs : (Tr.nd k w l r).size ≤ 300) : (nt k w l r).ok := by
  obtain ⟨hk, hw, _, _, _⟩ := h
  rw [size_nd] at hs
  have a1 := root_lo l
  have a2 := root_hi l
  have a3 := root_lo r
  have a4 := root_hi r
  show T.within (.tup [k, w, .int l.root, .int r.root, .int ((l.size + r.size + 1 : Nat) : Int)]) 2 = true
  simp only [T.within, T.withins, List.length_cons, List.length_nil, keyB_within hk, within_mono w (by decide : 1 ≤ 2 - 1) hw, Bool.true_and, Bool.and_true, Bool.and_eq_true, decide_eq_true_eq]
  have e1 : MODS ≤ MOSTN := by decide
  have e2 : -MOSTN ≤ 0 := by decide
  have e3 : (300 : Int) ≤ MOSTN := by decide
  refine ⟨⟨by decide, by decide⟩, ⟨by omega, by omega⟩, ⟨by omega, by omega⟩, by omega, by omega⟩

/-! ### parting -/
def part : Tr → T → Tr × Tr
  | .nil, _ => (.nil, .nil)
  | .nd k w l r, key => if aheadT k key = true then (.nd k w l (part r key).1, (part r key).2) else ((part l key).1, .nd k w (part l key).2 r)
def partL : Tr → T → List T
  | .nil, _ => []
  | .nd k w l r, key => if aheadT k key = true then partL r key ++ [nt k w l (part r key).1] else partL l key ++ [nt k w (part l key).2 r]
def partW : Tr → T → List Tr
  | .nil, _ => []
  | .nd k w l r, key => .nd k w l r :: (if aheadT k key = true then partW r key else partW l key)
def partC (key : T) : Tr → Tr
  | .nil => .nil
  | .nd k w l r => if aheadT k key = true then r else l
theorem partW_nd (k w : T) (l r : Tr) (key : T) : partW (.nd k w l r) key = .nd k w l r :: partW (partC key (.nd k w l r)) key := by
  rw [partW, partC]
  split <;> rfl
theorem part_size : ∀ (t : Tr) (key : T), (part t key).1.size + (part t key).2.size = t.size
  | .nil, _ => rfl
  | .nd k w l r, key => by
    rw [part]
    split
    · have h := part_size r key
      simp only [size_nd]
      omega
    · have h := part_size l key
      simp only [size_nd]
      omega
theorem part_ok : ∀ {t : Tr} (key : T), t.Ok → (part t key).1.Ok ∧ (part t key).2.Ok
  | .nil, _, _ => ⟨trivial, trivial⟩
  | .nd k w l r, key, ⟨h1, h2, h3, h4, h5⟩ => by
    rw [part]
    split
    · have h := part_ok key h5
      exact ⟨⟨h1, h2, h3, h4, h.1⟩, h.2⟩
    · have h := part_ok key h4
      exact ⟨h.1, h1, h2, h3, h.2, h5⟩
theorem part_nodes : ∀ {t : Tr} {key : T} {x : T}, x ∈ (part t key).1.nodes ∨ x ∈ (part t key).2.nodes → x ∈ t.nodes ∨ x ∈ partL t key
  | .nil, key, x, h => by
    rcases h with h | h <;> cases h
  | .nd k w l r, key, x, h => by
    by_cases c : aheadT k key = true
    · rw [part, if_pos c] at h
      rw [partL, if_pos c]
      have ih : x ∈ (part r key).1.nodes ∨ x ∈ (part r key).2.nodes → x ∈ r.nodes ∨ x ∈ partL r key := part_nodes
      simp only [Tr.nodes, List.mem_cons, List.mem_append, List.mem_singleton] at h ⊢
      rcases h with (h | h | h) | h
      · exact .inr (.inr (.inl h))
      · exact .inl (.inr (.inl h))
      · rcases ih (.inl h) with q | q
        · exact .inl (.inr (.inr q))
        · exact .inr (.inl q)
      · rcases ih (.inr h) with q | q
        · exact .inl (.inr (.inr q))
        · exact .inr (.inl q)
    · rw [part, if_neg c] at h
      rw [partL, if_neg c]
      have ih : x ∈ (part l key).1.nodes ∨ x ∈ (part l key).2.nodes → x ∈ l.nodes ∨ x ∈ partL l key := part_nodes
      simp only [Tr.nodes, List.mem_cons, List.mem_append, List.mem_singleton] at h ⊢
      rcases h with h | h | h | h
      · rcases ih (.inl h) with q | q
        · exact .inl (.inr (.inl q))
        · exact .inr (.inl q)
      · exact .inr (.inr (.inl h))
      · rcases ih (.inr h) with q | q
        · exact .inl (.inr (.inl q))
        · exact .inr (.inl q)
      · exact .inl (.inr (.inr h))
theorem partL_ok : ∀ {t : Tr} {key : T}, t.Ok → t.size ≤ 300 → ∀ x ∈ partL t key, x.ok
  | .nil, key, _, _, x, h => by cases h
  | .nd k w l r, key, ⟨h1, h2, h3, h4, h5⟩, hs, x, h => by
    rw [size_nd] at hs
    rw [partL] at h
    split at h
    · rcases List.mem_append.mp h with h | h
      · exact partL_ok h5 (by omega) x h
      · rw [List.mem_singleton.mp h]
        have q := part_size r key
        exact nt_ok ⟨h1, h2, h3, h4, (part_ok key h5).1⟩ (by rw [size_nd]; omega)
    · rcases List.mem_append.mp h with h | h
      · exact partL_ok h4 (by omega) x h
      · rw [List.mem_singleton.mp h]
        have q := part_size l key
        exact nt_ok ⟨h1, h2, h3, (part_ok key h4).2, h5⟩ (by rw [size_nd]; omega)
theorem partL_len : ∀ (t : Tr) (key : T), (partL t key).length ≤ t.size
  | .nil, _ => Nat.le_refl _
  | .nd k w l r, key => by
    rw [partL, size_nd]
    split
    · have h := partL_len r key
      rw [List.length_append, List.length_singleton]
      omega
    · have h := partL_len l key
      rw [List.length_append, List.length_singleton]
      omega
theorem partW_len : ∀ (t : Tr) (key : T), (partW t key).length ≤ t.size
  | .nil, _ => Nat.le_refl _
  | .nd k w l r, key => by
    rw [partW, size_nd, List.length_cons]
    split
    · have h := partW_len r key
      omega
    · have h := partW_len l key
      omega
theorem partW_nodes : ∀ {t : Tr} {key : T}, ∀ x ∈ (partW t key).map Tr.th, x ∈ t.nodes
  | .nil, key, x, h => by cases h
  | .nd k w l r, key, x, h => by
    rw [partW, List.map_cons] at h
    rw [Tr.nodes]
    rcases List.mem_cons.mp h with h | h
    · rw [h]; exact List.mem_cons_self
    · split at h
      · exact List.mem_cons_of_mem _ (List.mem_append_right _ (partW_nodes x h))
      · exact List.mem_cons_of_mem _ (List.mem_append_left _ (partW_nodes x h))
/-- what is left of a way is the way of a tree beneath -/
theorem partW_drop : ∀ (t : Tr) (key : T) (j : Nat), ∃ u : Tr, (partW t key).drop j = partW u key ∧ (t.Ok → u.Ok) ∧ u.size ≤ t.size
  | t, key, 0 => ⟨t, rfl, id, Nat.le_refl _⟩
  | .nil, key, j + 1 => ⟨.nil, rfl, id, Nat.le_refl _⟩
  | .nd k w l r, key, j + 1 => by
    rw [partW_nd, List.drop_succ_cons, partC]
    split
    · obtain ⟨u, h1, h2, h3⟩ := partW_drop r key j
      exact ⟨u, h1, fun ⟨_, _, _, _, h⟩ => h2 h, by rw [size_nd]; omega⟩
    · obtain ⟨u, h1, h2, h3⟩ := partW_drop l key j
      exact ⟨u, h1, fun ⟨_, _, _, h, _⟩ => h2 h, by rw [size_nd]; omega⟩
theorem partW_cons {t x : Tr} {key : T} {ys : List Tr} (h : partW t key = x :: ys) : ∃ k w l r, t = .nd k w l r ∧ x = .nd k w l r ∧ ys = partW (partC key (.nd k w l r)) key := by
  cases t with
  | nil => cases h
  | nd k w l r =>
    rw [partW_nd] at h
    injection h with h1 h2
    exact ⟨k, w, l, r, rfl, h1.symm, h2.symm⟩

/-! ### joining -/
def join : Tr → Tr → Tr
  | .nil, t => t
  | .nd k w l r, .nil => .nd k w l r
  | .nd k1 w1 l1 r1, .nd k2 w2 l2 r2 => if aboveT k1 k2 = true then .nd k1 w1 l1 (join r1 (.nd k2 w2 l2 r2)) else .nd k2 w2 (join (.nd k1 w1 l1 r1) l2) r2
termination_by l r => l.size + r.size
decreasing_by
  all_goals simp only [size_nd]
  all_goals omega
def joinL : Tr → Tr → List T
  | .nil, _ => []
  | .nd _ _ _ _, .nil => []
  | .nd k1 w1 l1 r1, .nd k2 w2 l2 r2 => if aboveT k1 k2 = true then joinL r1 (.nd k2 w2 l2 r2) ++ [nt k1 w1 l1 (join r1 (.nd k2 w2 l2 r2))] else joinL (.nd k1 w1 l1 r1) l2 ++ [nt k2 w2 (join (.nd k1 w1 l1 r1) l2) r2]
termination_by l r => l.size + r.size
decreasing_by
  all_goals simp only [size_nd]
  all_goals omega
theorem join_nil (t : Tr) : join .nil t = t := by rw [join]
theorem join_nilr (t : Tr) : join t .nil = t := by cases t <;> rw [join]
theorem joinL_nil (t : Tr) : joinL .nil t = [] := by rw [joinL]
theorem joinL_nilr (t : Tr) : joinL t .nil = [] := by cases t <;> rw [joinL]
section
variable {k1 w1 k2 w2 : T} {l1 r1 l2 r2 : Tr}
theorem join_first (h : aboveT k1 k2 = true) : join (.nd k1 w1 l1 r1) (.nd k2 w2 l2 r2) = .nd k1 w1 l1 (join r1 (.nd k2 w2 l2 r2)) := by rw [join, if_pos h]
theorem join_second (h : ¬ aboveT k1 k2 = true) : join (.nd k1 w1 l1 r1) (.nd k2 w2 l2 r2) = .nd k2 w2 (join (.nd k1 w1 l1 r1) l2) r2 := by rw [join, if_neg h]
theorem joinL_first (h : aboveT k1 k2 = true) : joinL (.nd k1 w1 l1 r1) (.nd k2 w2 l2 r2) = joinL r1 (.nd k2 w2 l2 r2) ++ [nt k1 w1 l1 (join r1 (.nd k2 w2 l2 r2))] := by rw [joinL, if_pos h]
theorem joinL_second (h : ¬ aboveT k1 k2 = true) : joinL (.nd k1 w1 l1 r1) (.nd k2 w2 l2 r2) = joinL (.nd k1 w1 l1 r1) l2 ++ [nt k2 w2 (join (.nd k1 w1 l1 r1) l2) r2] := by rw [joinL, if_neg h]
end
/-- induction as join goes -/
theorem join_ind {P : Tr → Tr → Prop} (h1 : ∀ t, P .nil t) (h2 : ∀ t, P t .nil)
    (h3 : ∀ k1 w1 l1 r1 k2 w2 l2 r2, aboveT k1 k2 = true → P r1 (.nd k2 w2 l2 r2) → P (.nd k1 w1 l1 r1) (.nd k2 w2 l2 r2))
    (h4 : ∀ k1 w1 l1 r1 k2 w2 l2 r2, ¬ aboveT k1 k2 = true → P (.nd k1 w1 l1 r1) l2 → P (.nd k1 w1 l1 r1) (.nd k2 w2 l2 r2)) : ∀ l r, P l r := by
  have key : ∀ (n : Nat) (l r : Tr), l.size + r.size ≤ n → P l r := by
    intro n
    induction n with
    | zero =>
      intro l r h
      cases l with
      | nil => exact h1 r
      | nd k w a b => rw [size_nd] at h; omega
    | succ n ih =>
      intro l r h
      cases l with
      | nil => exact h1 r
      | nd k1 w1 l1 r1 =>
        cases r with
        | nil => exact h2 _
        | nd k2 w2 l2 r2 =>
          rw [size_nd, size_nd] at h
          by_cases c : aboveT k1 k2 = true
          · exact h3 _ _ _ _ _ _ _ _ c (ih _ _ (by rw [size_nd]; omega))
          · exact h4 _ _ _ _ _ _ _ _ c (ih _ _ (by rw [size_nd]; omega))
  exact fun l r => key _ l r (Nat.le_refl _)
theorem join_size : ∀ l r : Tr, (join l r).size = l.size + r.size := by
  refine join_ind (fun t => ?_) (fun t => ?_) (fun k1 w1 l1 r1 k2 w2 l2 r2 c ih => ?_) (fun k1 w1 l1 r1 k2 w2 l2 r2 c ih => ?_)
  · rw [join_nil]; simp [Tr.size]
  · rw [join_nilr]; simp [Tr.size]
  · rw [join_first c]; simp only [size_nd] at ih ⊢; omega
  · rw [join_second c]; simp only [size_nd] at ih ⊢; omega
theorem join_ok : ∀ l r : Tr, l.Ok → r.Ok → (join l r).Ok := by
  refine join_ind (fun t _ h => ?_) (fun t h _ => ?_) (fun k1 w1 l1 r1 k2 w2 l2 r2 c ih h1 h2 => ?_) (fun k1 w1 l1 r1 k2 w2 l2 r2 c ih h1 h2 => ?_)
  · rw [join_nil]; exact h
  · rw [join_nilr]; exact h
  · rw [join_first c]
    obtain ⟨a, b, d, e, f⟩ := h1
    exact ⟨a, b, d, e, ih f h2⟩
  · rw [join_second c]
    obtain ⟨a, b, d, e, f⟩ := h2
    exact ⟨a, b, d, ih h1 e, f⟩
theorem join_nodes : ∀ l r : Tr, ∀ x ∈ (join l r).nodes, x ∈ l.nodes ∨ x ∈ r.nodes ∨ x ∈ joinL l r := by
  refine join_ind (fun t x h => ?_) (fun t x h => ?_) (fun k1 w1 l1 r1 k2 w2 l2 r2 c ih x h => ?_) (fun k1 w1 l1 r1 k2 w2 l2 r2 c ih x h => ?_)
  · rw [join_nil] at h; exact .inr (.inl h)
  · rw [join_nilr] at h; exact .inl h
  · rw [join_first c] at h
    rw [joinL_first c]
    simp only [Tr.nodes, List.mem_cons, List.mem_append, List.mem_singleton] at h ih ⊢
    rcases h with h | h | h
    · exact .inr (.inr (.inr (.inl h)))
    · exact .inl (.inr (.inl h))
    · rcases ih x h with q | q | q
      · exact .inl (.inr (.inr q))
      · exact .inr (.inl q)
      · exact .inr (.inr (.inl q))
  · rw [join_second c] at h
    rw [joinL_second c]
    simp only [Tr.nodes, List.mem_cons, List.mem_append, List.mem_singleton] at h ih ⊢
    rcases h with h | h | h
    · exact .inr (.inr (.inr (.inl h)))
    · rcases ih x h with q | q | q
      · exact .inl q
      · exact .inr (.inl (.inr (.inl q)))
      · exact .inr (.inr (.inl q))
    · exact .inr (.inl (.inr (.inr h)))
theorem joinL_ok : ∀ l r : Tr, l.Ok → r.Ok → l.size + r.size ≤ 300 → ∀ x ∈ joinL l r, x.ok := by
  refine join_ind (fun t _ _ _ x h => ?_) (fun t _ _ _ x h => ?_) (fun k1 w1 l1 r1 k2 w2 l2 r2 c ih h1 h2 hs x h => ?_) (fun k1 w1 l1 r1 k2 w2 l2 r2 c ih h1 h2 hs x h => ?_)
  · rw [joinL_nil] at h; cases h
  · rw [joinL_nilr] at h; cases h
  · rw [joinL_first c] at h
    have q := join_size r1 (.nd k2 w2 l2 r2)
    obtain ⟨a, b, d, e, f⟩ := h1
    have o := join_ok _ _ f h2
    rw [size_nd] at hs
    rcases List.mem_append.mp h with h | h
    · exact ih f h2 (by omega) x h
    · rw [List.mem_singleton.mp h]
      exact nt_ok ⟨a, b, d, e, o⟩ (by rw [size_nd]; omega)
  · rw [joinL_second c] at h
    have q := join_size (.nd k1 w1 l1 r1) l2
    obtain ⟨a, b, d, e, f⟩ := h2
    have o := join_ok _ _ h1 e
    rw [size_nd (k := k2)] at hs
    rcases List.mem_append.mp h with h | h
    · exact ih h1 e (by omega) x h
    · rw [List.mem_singleton.mp h]
      exact nt_ok ⟨a, b, d, o, f⟩ (by rw [size_nd]; omega)
theorem joinL_len : ∀ l r : Tr, (joinL l r).length ≤ l.size + r.size := by
  refine join_ind (fun t => ?_) (fun t => ?_) (fun k1 w1 l1 r1 k2 w2 l2 r2 c ih => ?_) (fun k1 w1 l1 r1 k2 w2 l2 r2 c ih => ?_)
  · rw [joinL_nil]; exact Nat.zero_le _
  · rw [joinL_nilr]; exact Nat.zero_le _
  · rw [joinL_first c, List.length_append, List.length_singleton]; simp only [size_nd] at ih ⊢; omega
  · rw [joinL_second c, List.length_append, List.length_singleton]; simp only [size_nd] at ih ⊢; omega
/-- the two trees go down along xs to two others -/
inductive Jw : Tr → Tr → List (Tr × Bool × Nat) → Tr → Tr → Prop
  | nil {l r : Tr} : Jw l r [] l r
  | first {k1 w1 k2 w2 : T} {l1 r1 l2 r2 le re : Tr} {ys : List (Tr × Bool × Nat)} (c : aboveT k1 k2 = true) (h : Jw r1 (.nd k2 w2 l2 r2) ys le re) :
      Jw (.nd k1 w1 l1 r1) (.nd k2 w2 l2 r2) ((.nd k1 w1 l1 r1, true, (Tr.nd k1 w1 l1 r1).size + (Tr.nd k2 w2 l2 r2).size) :: ys) le re
  | second {k1 w1 k2 w2 : T} {l1 r1 l2 r2 le re : Tr} {ys : List (Tr × Bool × Nat)} (c : ¬ aboveT k1 k2 = true) (h : Jw (.nd k1 w1 l1 r1) l2 ys le re) :
      Jw (.nd k1 w1 l1 r1) (.nd k2 w2 l2 r2) ((.nd k2 w2 l2 r2, false, (Tr.nd k1 w1 l1 r1).size + (Tr.nd k2 w2 l2 r2).size) :: ys) le re
theorem Jw.trans {l r a b c d : Tr} {xs ys : List (Tr × Bool × Nat)} (h : Jw l r xs a b) (h2 : Jw a b ys c d) : Jw l r (xs ++ ys) c d := by
  induction h with
  | nil => exact h2
  | first c _ ih => exact .first c (ih h2)
  | second c _ ih => exact .second c (ih h2)
theorem Jw.drop {l r a b : Tr} {xs : List (Tr × Bool × Nat)} (h : Jw l r xs a b) : ∀ j : Nat, ∃ l' r', Jw l' r' (xs.drop j) a b ∧ (l.Ok ∧ r.Ok → l'.Ok ∧ r'.Ok) ∧ l'.size + r'.size ≤ l.size + r.size := by
  induction h with
  | @nil l r => intro j; exact ⟨l, r, by rw [List.drop_nil]; exact .nil, id, Nat.le_refl _⟩
  | @first k1 w1 k2 w2 l1 r1 l2 r2 le re ys c h ih =>
    intro j
    cases j with
    | zero => exact ⟨_, _, .first c h, id, Nat.le_refl _⟩
    | succ j =>
      obtain ⟨l', r', q, o, s⟩ := ih j
      refine ⟨l', r', q, fun ⟨⟨_, _, _, _, z⟩, y⟩ => o ⟨z, y⟩, ?_⟩
      simp only [size_nd] at s ⊢
      omega
  | @second k1 w1 k2 w2 l1 r1 l2 r2 le re ys c h ih =>
    intro j
    cases j with
    | zero => exact ⟨_, _, .second c h, id, Nat.le_refl _⟩
    | succ j =>
      obtain ⟨l', r', q, o, s⟩ := ih j
      refine ⟨l', r', q, fun ⟨y, ⟨_, _, _, z, _⟩⟩ => o ⟨y, z⟩, ?_⟩
      simp only [size_nd] at s ⊢
      omega
theorem Jw.len {l r a b : Tr} {xs : List (Tr × Bool × Nat)} (h : Jw l r xs a b) : xs.length + (a.size + b.size) ≤ l.size + r.size := by
  induction h with
  | nil => simp
  | first c _ ih => simp only [size_nd, List.length_cons] at ih ⊢; omega
  | second c _ ih => simp only [size_nd, List.length_cons] at ih ⊢; omega

/-! ### ways of put and cut -/
def ch (key : T) : Tr → Tr
  | .nil => .nil
  | .nd k w l r => if aheadT key k = true then l else r
/-- t goes down along xs to c -/
inductive Ch (key : T) : Tr → List Tr → Tr → Prop
  | nil {t : Tr} : Ch key t [] t
  | cons {k w : T} {l r c : Tr} {xs : List Tr} (h : Ch key (ch key (.nd k w l r)) xs c) : Ch key (.nd k w l r) (.nd k w l r :: xs) c
theorem Ch.trans {key : T} {t m c : Tr} {xs ys : List Tr} (h : Ch key t xs m) (h2 : Ch key m ys c) : Ch key t (xs ++ ys) c := by
  induction h with
  | nil => exact h2
  | cons _ ih => exact .cons (ih h2)
theorem Ch.snoc {key k w : T} {t l r : Tr} {xs : List Tr} (h : Ch key t xs (.nd k w l r)) : Ch key t (xs ++ [.nd k w l r]) (ch key (.nd k w l r)) := h.trans (.cons .nil)
theorem ch_le (key : T) : ∀ t : Tr, (ch key t).size ≤ t.size
  | .nil => Nat.le_refl _
  | .nd k w l r => by rw [ch, size_nd]; split <;> omega
theorem ch_ok (key : T) : ∀ {t : Tr}, t.Ok → (ch key t).Ok
  | .nil, _ => trivial
  | .nd k w l r, ⟨_, _, _, h1, h2⟩ => by rw [ch]; split <;> assumption
theorem ch_nodes (key : T) : ∀ {t : Tr}, ∀ x ∈ (ch key t).nodes, x ∈ t.nodes
  | .nil, x, h => h
  | .nd k w l r, x, h => by
    rw [ch] at h
    rw [Tr.nodes]
    split at h
    · exact List.mem_cons_of_mem _ (List.mem_append_left _ h)
    · exact List.mem_cons_of_mem _ (List.mem_append_right _ h)
theorem Ch.drop {key : T} {t c : Tr} {xs : List Tr} (h : Ch key t xs c) : ∀ j : Nat, ∃ m, Ch key m (xs.drop j) c ∧ (t.Ok → m.Ok) ∧ m.size ≤ t.size := by
  induction h with
  | @nil t => intro j; exact ⟨t, by rw [List.drop_nil]; exact .nil, id, Nat.le_refl _⟩
  | @cons k w l r c xs h ih =>
    intro j
    cases j with
    | zero => exact ⟨_, .cons h, id, Nat.le_refl _⟩
    | succ j =>
      obtain ⟨m, q, o, s⟩ := ih j
      exact ⟨m, q, fun z => o (ch_ok key z), Nat.le_trans s (ch_le key _)⟩
theorem Ch.ok {key : T} {t c : Tr} {xs : List Tr} (h : Ch key t xs c) : t.Ok → c.Ok := by
  induction h with
  | nil => exact id
  | cons _ ih => exact fun z => ih (ch_ok key z)
theorem Ch.le {key : T} {t c : Tr} {xs : List Tr} (h : Ch key t xs c) : xs.length + c.size ≤ t.size := by
  induction h with
  | nil => simp
  | @cons k w l r c xs h ih =>
    have q : (ch key (.nd k w l r)).size + 1 ≤ (Tr.nd k w l r).size := by
      rw [ch, size_nd]; split <;> omega
    rw [List.length_cons]
    omega
theorem Ch.nodes {key : T} {t c : Tr} {xs : List Tr} (h : Ch key t xs c) : ∀ x ∈ c.nodes, x ∈ t.nodes := by
  induction h with
  | nil => exact fun x h => h
  | cons _ ih => exact fun x h => ch_nodes key x (ih x h)
theorem Ch.ways {key : T} {t c : Tr} {xs : List Tr} (h : Ch key t xs c) : ∀ x ∈ xs.map Tr.th, x ∈ t.nodes := by
  induction h with
  | nil => intro x h; cases h
  | cons _ ih =>
    intro x h
    rw [List.map_cons] at h
    rcases List.mem_cons.mp h with h | h
    · rw [h]; exact List.mem_cons_self
    · exact ch_nodes key x (ih x h)
/-- the way with another tree at its end -/
def plug (key : T) : List Tr → Tr → Tr
  | [], u => u
  | .nil :: xs, u => plug key xs u
  | .nd k w l r :: xs, u => if aheadT key k = true then .nd k w (plug key xs u) r else .nd k w l (plug key xs u)
def plugL (key : T) : List Tr → Tr → List T
  | [], _ => []
  | .nil :: xs, u => plugL key xs u
  | .nd k w l r :: xs, u => plugL key xs u ++ [if aheadT key k = true then nt k w (plug key xs u) r else nt k w l (plug key xs u)]
theorem plug_app (key : T) : ∀ (xs ys : List Tr) (u : Tr), plug key (xs ++ ys) u = plug key xs (plug key ys u)
  | [], _, _ => rfl
  | .nil :: xs, ys, u => by rw [List.cons_append, plug, plug, plug_app key xs ys u]
  | .nd k w l r :: xs, ys, u => by rw [List.cons_append, plug, plug, plug_app key xs ys u]
theorem plugL_app (key : T) : ∀ (xs ys : List Tr) (u : Tr), plugL key (xs ++ ys) u = plugL key ys u ++ plugL key xs (plug key ys u)
  | [], _, _ => by rw [List.nil_append, plugL, List.append_nil]
  | .nil :: xs, ys, u => by rw [List.cons_append, plugL, plugL, plugL_app key xs ys u]
  | .nd k w l r :: xs, ys, u => by rw [List.cons_append, plugL, plugL, plugL_app key xs ys u, plug_app key xs ys u, List.append_assoc]
theorem plug_size {key : T} {t c : Tr} {xs : List Tr} (h : Ch key t xs c) {u : Tr} {more : Int} (hu : (u.size : Int) = c.size + more) : ((plug key xs u).size : Int) = t.size + more := by
  induction h with
  | nil => exact hu
  | @cons k w l r c xs h ih =>
    have q := ih hu
    rw [plug]
    rw [ch] at q
    split
    · rename_i c1
      rw [if_pos c1] at q
      simp only [size_nd]
      omega
    · rename_i c1
      rw [if_neg c1] at q
      simp only [size_nd]
      omega
theorem plug_ok {key : T} {t c : Tr} {xs : List Tr} (h : Ch key t xs c) {u : Tr} (ht : t.Ok) (hu : u.Ok) : (plug key xs u).Ok := by
  induction h with
  | nil => exact hu
  | @cons k w l r c xs h ih =>
    have q := ih (ch_ok key ht)
    obtain ⟨h1, h2, h3, h4, h5⟩ := ht
    rw [plug]
    split
    · exact ⟨h1, h2, h3, q, h5⟩
    · exact ⟨h1, h2, h3, h4, q⟩
theorem plug_nodes {key : T} {t c : Tr} {xs : List Tr} (h : Ch key t xs c) {u : Tr} : ∀ x ∈ (plug key xs u).nodes, x ∈ t.nodes ∨ x ∈ u.nodes ∨ x ∈ plugL key xs u := by
  induction h with
  | nil => intro x h; exact .inr (.inl h)
  | @cons k w l r c xs h ih =>
    intro x hx
    have back : x ∈ (plug key xs u).nodes → x ∈ (Tr.nd k w l r).nodes ∨ x ∈ u.nodes ∨ x ∈ plugL key (.nd k w l r :: xs) u := fun z => by
      rcases ih x z with z | z | z
      · exact .inl (ch_nodes key x z)
      · exact .inr (.inl z)
      · exact .inr (.inr (by rw [plugL]; exact List.mem_append_left _ z))
    rw [plug] at hx
    by_cases c1 : aheadT key k = true
    · rw [if_pos c1] at hx
      rcases List.mem_cons.mp hx with e | hx
      · exact .inr (.inr (by rw [plugL, if_pos c1]; exact List.mem_append_right _ (List.mem_singleton.mpr e)))
      · rcases List.mem_append.mp hx with z | z
        · exact back z
        · exact .inl (List.mem_cons_of_mem _ (List.mem_append_right _ z))
    · rw [if_neg c1] at hx
      rcases List.mem_cons.mp hx with e | hx
      · exact .inr (.inr (by rw [plugL, if_neg c1]; exact List.mem_append_right _ (List.mem_singleton.mpr e)))
      · rcases List.mem_append.mp hx with z | z
        · exact .inl (List.mem_cons_of_mem _ (List.mem_append_left _ z))
        · exact back z
theorem plugL_ok {key : T} {t c : Tr} {xs : List Tr} (h : Ch key t xs c) {u : Tr} {more : Int} (hu : (u.size : Int) = c.size + more) (hs : (t.size : Int) + more ≤ 300) (hm : -1 ≤ more) (hs2 : t.size ≤ 300) (ht : t.Ok) (ho : u.Ok) : ∀ x ∈ plugL key xs u, x.ok := by
  induction h with
  | nil => intro x h; cases h
  | @cons k w l r c xs h ih =>
    intro x hx
    have z := plug_size h hu
    have o := plug_ok h (ch_ok key ht) ho
    have e := ch_le key (.nd k w l r)
    have ih' := ih hu (by omega) (by omega) (ch_ok key ht)
    obtain ⟨h1, h2, h3, h4, h5⟩ := ht
    rw [plugL] at hx
    rcases List.mem_append.mp hx with hx | hx
    · exact ih' x hx
    · rw [List.mem_singleton.mp hx]
      rw [ch] at z
      rw [size_nd] at hs
      split
      · rename_i c1
        rw [if_pos c1] at z
        exact nt_ok ⟨h1, h2, h3, o, h5⟩ (by rw [size_nd]; omega)
      · rename_i c1
        rw [if_neg c1] at z
        exact nt_ok ⟨h1, h2, h3, h4, o⟩ (by rw [size_nd]; omega)
theorem plugL_len (key : T) : ∀ (xs : List Tr) (u : Tr), (plugL key xs u).length ≤ xs.length
  | [], _ => Nat.le_refl _
  | .nil :: xs, u => by rw [plugL, List.length_cons]; exact Nat.le_succ_of_le (plugL_len key xs u)
  | .nd k w l r :: xs, u => by
    rw [plugL, List.length_append, List.length_singleton, List.length_cons]
    exact Nat.succ_le_succ (plugL_len key xs u)

/-! ### put -/
def put : Tr → T → T → Tr
  | .nil, key, w => .nd key w .nil .nil
  | .nd k w' l r, key, w => if k = key then .nd key w l r else if aboveT key k = true then .nd key w (part (.nd k w' l r) key).1 (part (.nd k w' l r) key).2 else
      if aheadT key k = true then .nd k w' (put l key w) r else .nd k w' l (put r key w)
def putL : Tr → T → T → List T
  | .nil, key, w => [nt key w .nil .nil]
  | .nd k w' l r, key, w => if k = key then [nt key w l r] else if aboveT key k = true then partL (.nd k w' l r) key ++ [nt key w (part (.nd k w' l r) key).1 (part (.nd k w' l r) key).2] else
      if aheadT key k = true then putL l key w ++ [nt k w' (put l key w) r] else putL r key w ++ [nt k w' l (put r key w)]
/-- what is read -/
def putR : Tr → T → List T
  | .nil, _ => []
  | .nd k w' l r, key => nt k w' l r :: (if k = key then [] else if aboveT key k = true then (partW (.nd k w' l r) key).map Tr.th else if aheadT key k = true then putR l key else putR r key)
def putMore : Tr → T → Nat
  | .nil, _ => 1
  | .nd k w' l r, key => if k = key then 0 else if aboveT key k = true then 1 else if aheadT key k = true then putMore l key else putMore r key
theorem putMore_le : ∀ (t : Tr) (key : T), putMore t key ≤ 1
  | .nil, _ => Nat.le_refl _
  | .nd k w' l r, key => by
    have a := putMore_le l key
    have b := putMore_le r key
    rw [putMore]
    split
    · exact Nat.zero_le _
    · split
      · exact Nat.le_refl _
      · split <;> assumption
/-- T is put as xs and c are -/
structure PutAt (key w : T) (t : Tr) (xs : List Tr) (c : Tr) : Prop where
  ch : Ch key t xs c
  tree : put t key w = plug key xs (put c key w)
  lays : putL t key w = putL c key w ++ plugL key xs (put c key w)
  reads : putR t key = xs.map Tr.th ++ putR c key
theorem PutAt.start {key w : T} {t : Tr} : PutAt key w t [] t := ⟨.nil, rfl, by rw [plugL, List.append_nil], rfl⟩
theorem PutAt.step {key w k w' : T} {t l r : Tr} {xs : List Tr} (h : PutAt key w t xs (.nd k w' l r)) (h1 : ¬ k = key) (h2 : ¬ aboveT key k = true) :
    PutAt key w t (xs ++ [.nd k w' l r]) (PV.ch key (.nd k w' l r)) := by
  have e1 : put (.nd k w' l r) key w = plug key [.nd k w' l r] (put (PV.ch key (.nd k w' l r)) key w) := by
    rw [put, if_neg h1, if_neg h2, plug, plug, PV.ch]
    split <;> rfl
  have e2 : putL (.nd k w' l r) key w = putL (PV.ch key (.nd k w' l r)) key w ++ plugL key [.nd k w' l r] (put (PV.ch key (.nd k w' l r)) key w) := by
    rw [putL, if_neg h1, if_neg h2, plugL, plugL, plug, List.nil_append, PV.ch]
    split <;> rfl
  have e3 : putR (.nd k w' l r) key = Tr.th (.nd k w' l r) :: putR (PV.ch key (.nd k w' l r)) key := by
    rw [putR, if_neg h1, if_neg h2, PV.ch]
    split <;> rfl
  refine ⟨h.ch.snoc, ?_, ?_, ?_⟩
  · rw [plug_app, ← e1]; exact h.tree
  · rw [plugL_app, ← e1, ← List.append_assoc, ← e2]; exact h.lays
  · rw [List.map_append, List.append_assoc, List.map_cons, List.map_nil, List.singleton_append, ← e3]; exact h.reads
theorem put_size : ∀ (t : Tr) (key w : T), (put t key w).size = t.size + putMore t key
  | .nil, key, w => rfl
  | .nd k w' l r, key, w => by
    have a := put_size l key w
    have b := put_size r key w
    have p := part_size (.nd k w' l r) key
    rw [put, putMore]
    split
    · simp only [size_nd, Nat.add_zero]
    · split
      · simp only [size_nd] at p ⊢; omega
      · split <;> simp only [size_nd] <;> omega
theorem put_ok : ∀ {t : Tr} {key w : T}, t.Ok → key.keyB = true → w.within 1 = true → w ≠ .non → (put t key w).Ok
  | .nil, key, w, _, hk, hw, hn => ⟨hk, hw, hn, trivial, trivial⟩
  | .nd k w' l r, key, w, h, hk, hw, hn => by
    have p := part_ok key h
    obtain ⟨h1, h2, h3, h4, h5⟩ := h
    have a := put_ok h4 hk hw hn
    have b := put_ok h5 hk hw hn
    rw [put]
    split
    · exact ⟨hk, hw, hn, h4, h5⟩
    · split
      · exact ⟨hk, hw, hn, p.1, p.2⟩
      · split
        · exact ⟨h1, h2, h3, a, h5⟩
        · exact ⟨h1, h2, h3, h4, b⟩
theorem put_nodes : ∀ {t : Tr} {key w : T}, ∀ x ∈ (put t key w).nodes, x ∈ t.nodes ∨ x ∈ putL t key w
  | .nil, key, w, x, h => .inr h
  | .nd k w' l r, key, w, x, h => by
    have a := @put_nodes l key w x
    have b := @put_nodes r key w x
    have p := @part_nodes (.nd k w' l r) key x
    rw [put] at h
    rw [putL]
    split at h
    · rename_i c1
      rw [if_pos c1]
      rcases List.mem_cons.mp h with e | h
      · exact .inr (List.mem_singleton.mpr e)
      · exact .inl (List.mem_cons_of_mem _ h)
    · rename_i c1
      rw [if_neg c1]
      split at h
      · rename_i c2
        rw [if_pos c2]
        rcases List.mem_cons.mp h with e | h
        · exact .inr (List.mem_append_right _ (List.mem_singleton.mpr e))
        · rcases p (List.mem_append.mp h) with q | q
          · exact .inl q
          · exact .inr (List.mem_append_left _ q)
      · rename_i c2
        rw [if_neg c2]
        split at h
        · rename_i c3
          rw [if_pos c3]
          rcases List.mem_cons.mp h with e | h
          · exact .inr (List.mem_append_right _ (List.mem_singleton.mpr e))
          · rcases List.mem_append.mp h with h | h
            · rcases a h with q | q
              · exact .inl (List.mem_cons_of_mem _ (List.mem_append_left _ q))
              · exact .inr (List.mem_append_left _ q)
            · exact .inl (List.mem_cons_of_mem _ (List.mem_append_right _ h))
        · rename_i c3
          rw [if_neg c3]
          rcases List.mem_cons.mp h with e | h
          · exact .inr (List.mem_append_right _ (List.mem_singleton.mpr e))
          · rcases List.mem_append.mp h with h | h
            · exact .inl (List.mem_cons_of_mem _ (List.mem_append_left _ h))
            · rcases b h with q | q
              · exact .inl (List.mem_cons_of_mem _ (List.mem_append_right _ q))
              · exact .inr (List.mem_append_left _ q)
theorem putL_ok : ∀ {t : Tr} {key w : T}, t.Ok → t.size ≤ 299 → key.keyB = true → w.within 1 = true → w ≠ .non → ∀ x ∈ putL t key w, x.ok
  | .nil, key, w, _, _, hk, hw, hn, x, h => by
    rw [List.mem_singleton.mp h]
    exact nt_ok ⟨hk, hw, hn, trivial, trivial⟩ (by simp [size_nd, Tr.size])
  | .nd k w' l r, key, w, h, hs, hk, hw, hn, x, hx => by
    have p := part_ok key h
    have q := part_size (.nd k w' l r) key
    have pl := @partL_ok (.nd k w' l r) key h (by omega) x
    have hs' := hs
    rw [size_nd] at hs
    obtain ⟨h1, h2, h3, h4, h5⟩ := h
    have a := putL_ok h4 (by omega) hk hw hn x
    have b := putL_ok h5 (by omega) hk hw hn x
    have ao := put_ok h4 hk hw hn
    have bo := put_ok h5 hk hw hn
    have as := put_size l key w
    have bs := put_size r key w
    have am := putMore_le l key
    have bm := putMore_le r key
    rw [putL] at hx
    split at hx
    · rw [List.mem_singleton.mp hx]
      exact nt_ok ⟨hk, hw, hn, h4, h5⟩ (by rw [size_nd]; omega)
    · split at hx
      · rcases List.mem_append.mp hx with hx | hx
        · exact pl hx
        · rw [List.mem_singleton.mp hx]
          exact nt_ok ⟨hk, hw, hn, p.1, p.2⟩ (by rw [size_nd]; omega)
      · split at hx
        · rcases List.mem_append.mp hx with hx | hx
          · exact a hx
          · rw [List.mem_singleton.mp hx]
            exact nt_ok ⟨h1, h2, h3, ao, h5⟩ (by rw [size_nd]; omega)
        · rcases List.mem_append.mp hx with hx | hx
          · exact b hx
          · rw [List.mem_singleton.mp hx]
            exact nt_ok ⟨h1, h2, h3, h4, bo⟩ (by rw [size_nd]; omega)
theorem putL_len : ∀ (t : Tr) (key w : T), (putL t key w).length ≤ t.size + 1
  | .nil, key, w => Nat.le_refl _
  | .nd k w' l r, key, w => by
    have a := putL_len l key w
    have b := putL_len r key w
    have p := partL_len (.nd k w' l r) key
    rw [putL]
    split
    · simp
    · split
      · rw [List.length_append, List.length_singleton]; omega
      · split
        · rw [List.length_append, List.length_singleton, size_nd]; omega
        · rw [List.length_append, List.length_singleton, size_nd]; omega
theorem putR_nodes : ∀ {t : Tr} {key : T}, ∀ x ∈ putR t key, x ∈ t.nodes
  | .nil, key, x, h => by cases h
  | .nd k w' l r, key, x, h => by
    have a := @putR_nodes l key x
    have b := @putR_nodes r key x
    have p := @partW_nodes (.nd k w' l r) key x
    rw [putR] at h
    rcases List.mem_cons.mp h with e | h
    · rw [e]; exact List.mem_cons_self
    · split at h
      · cases h
      · split at h
        · exact p h
        · split at h
          · exact List.mem_cons_of_mem _ (List.mem_append_left _ (a h))
          · exact List.mem_cons_of_mem _ (List.mem_append_right _ (b h))
theorem putR_len : ∀ (t : Tr) (key : T), (putR t key).length ≤ t.size + 1
  | .nil, _ => Nat.zero_le _
  | .nd k w' l r, key => by
    have a := putR_len l key
    have b := putR_len r key
    have p := partW_len (.nd k w' l r) key
    rw [putR, List.length_cons]
    split
    · simp
    · split
      · rw [List.length_map]; omega
      · split
        · rw [size_nd]; omega
        · rw [size_nd]; omega
theorem putR_nil {t : Tr} {key : T} : putR t key = [] ↔ t = .nil := by
  cases t with
  | nil => exact ⟨fun _ => rfl, fun _ => rfl⟩
  | nd k w l r => exact ⟨fun h => by (rw [putR] at h; cases h), fun h => by cases h⟩

/-! ### cut -/
def cutO : Tr → T → Option (Tr × List T)
  | .nil, _ => none
  | .nd k w l r, key => if k = key then some (join l r, joinL l r) else
      if aheadT key k = true then (cutO l key).map fun p => (.nd k w p.1 r, p.2 ++ [nt k w p.1 r]) else (cutO r key).map fun p => (.nd k w l p.1, p.2 ++ [nt k w l p.1])
structure CutAt (key : T) (t : Tr) (xs : List Tr) (c : Tr) : Prop where
  ch : Ch key t xs c
  cut : cutO t key = (cutO c key).map fun p => (plug key xs p.1, p.2 ++ plugL key xs p.1)
theorem CutAt.start {key : T} {t : Tr} : CutAt key t [] t := ⟨.nil, by
  cases e : cutO t key with
  | none => rfl
  | some p => simp [plug, plugL]⟩
theorem CutAt.step {key k w : T} {t l r : Tr} {xs : List Tr} (h : CutAt key t xs (.nd k w l r)) (h1 : ¬ k = key) : CutAt key t (xs ++ [.nd k w l r]) (PV.ch key (.nd k w l r)) := by
  refine ⟨h.ch.snoc, ?_⟩
  rw [h.cut, cutO, if_neg h1, PV.ch]
  by_cases c : aheadT key k = true
  · rw [if_pos c, if_pos c, Option.map_map]
    congr 1
    funext p
    simp only [Function.comp, plug_app, plugL_app, plug, plugL, if_pos c, List.nil_append, List.append_assoc]
  · rw [if_neg c, if_neg c, Option.map_map]
    congr 1
    funext p
    simp only [Function.comp, plug_app, plugL_app, plug, plugL, if_neg c, List.nil_append, List.append_assoc]
theorem cut_facts : ∀ {t : Tr} {key : T} {u : Tr} {ls : List T}, cutO t key = some (u, ls) → t.Ok → t.size ≤ 300 →
    u.Ok ∧ u.size + 1 = t.size ∧ ls.length ≤ t.size ∧ (∀ x ∈ ls, x.ok) ∧ ∀ x ∈ u.nodes, x ∈ t.nodes ∨ x ∈ ls
  | .nil, key, u, ls, h, _, _ => by cases h
  | .nd k w l r, key, u, ls, h, ⟨h1, h2, h3, h4, h5⟩, hs => by
    rw [size_nd] at hs
    rw [cutO] at h
    split at h
    · injection h with h
      injection h with e1 e2
      subst e1
      subst e2
      have a := join_size l r
      refine ⟨join_ok l r h4 h5, by rw [a, size_nd], Nat.le_trans (joinL_len l r) (by rw [size_nd]; omega), joinL_ok l r h4 h5 (by omega), fun x hx => ?_⟩
      rcases join_nodes l r x hx with q | q | q
      · exact .inl (List.mem_cons_of_mem _ (List.mem_append_left _ q))
      · exact .inl (List.mem_cons_of_mem _ (List.mem_append_right _ q))
      · exact .inr q
    · split at h
      · cases e : cutO l key with
        | none => rw [e] at h; cases h
        | some p =>
          rw [e] at h
          injection h with h
          injection h with e1 e2
          subst e1
          subst e2
          obtain ⟨a1, a2, a3, a4, a5⟩ := cut_facts (u := p.1) (ls := p.2) e h4 (by omega)
          have hn : (nt k w p.1 r).ok := nt_ok ⟨h1, h2, h3, a1, h5⟩ (by rw [size_nd]; omega)
          refine ⟨⟨h1, h2, h3, a1, h5⟩, by rw [size_nd, size_nd]; omega, by rw [List.length_append, List.length_singleton, size_nd]; omega, fun x hx => ?_, fun x hx => ?_⟩
          · rcases List.mem_append.mp hx with hx | hx
            · exact a4 x hx
            · rw [List.mem_singleton.mp hx]; exact hn
          · rcases List.mem_cons.mp hx with e | hx
            · exact .inr (List.mem_append_right _ (List.mem_singleton.mpr e))
            · rcases List.mem_append.mp hx with hx | hx
              · rcases a5 x hx with q | q
                · exact .inl (List.mem_cons_of_mem _ (List.mem_append_left _ q))
                · exact .inr (List.mem_append_left _ q)
              · exact .inl (List.mem_cons_of_mem _ (List.mem_append_right _ hx))
      · cases e : cutO r key with
        | none => rw [e] at h; cases h
        | some p =>
          rw [e] at h
          injection h with h
          injection h with e1 e2
          subst e1
          subst e2
          obtain ⟨a1, a2, a3, a4, a5⟩ := cut_facts (u := p.1) (ls := p.2) e h5 (by omega)
          have hn : (nt k w l p.1).ok := nt_ok ⟨h1, h2, h3, h4, a1⟩ (by rw [size_nd]; omega)
          refine ⟨⟨h1, h2, h3, h4, a1⟩, by rw [size_nd, size_nd]; omega, by rw [List.length_append, List.length_singleton, size_nd]; omega, fun x hx => ?_, fun x hx => ?_⟩
          · rcases List.mem_append.mp hx with hx | hx
            · exact a4 x hx
            · rw [List.mem_singleton.mp hx]; exact hn
          · rcases List.mem_cons.mp hx with e | hx
            · exact .inr (List.mem_append_right _ (List.mem_singleton.mpr e))
            · rcases List.mem_append.mp hx with hx | hx
              · exact .inl (List.mem_cons_of_mem _ (List.mem_append_left _ hx))
              · rcases a5 x hx with q | q
                · exact .inl (List.mem_cons_of_mem _ (List.mem_append_right _ q))
                · exact .inr (List.mem_append_left _ q)
end PV
/-! M3: things by their seals, vaults' states, what becomes of a paper. No program here. -/
namespace PV
open PySem

abbrev M := List (Int × T)
namespace M
def get (m : M) (n : Int) : Option T := (m.find? fun p => decide (p.1 = n)).map (·.2)
def put (m : M) (n : Int) (t : T) : M := if (m.any fun p => decide (p.1 = n)) = true then m.map (fun p => if p.1 = n then (p.1, t) else p) else m ++ [(n, t)]
end M
theorem get_nil (n : Int) : M.get [] n = none := rfl
theorem get_cons (p : Int × T) (m : M) (n : Int) : M.get (p :: m) n = if p.1 = n then some p.2 else M.get m n := by
  unfold M.get
  rw [List.find?_cons]
  by_cases h : p.1 = n
  · rw [decide_eq_true h, if_pos h]; rfl
  · rw [decide_eq_false h, if_neg h]
theorem get_app (a b : M) (n : Int) : M.get (a ++ b) n = (M.get a n).or (M.get b n) := by
  induction a with
  | nil => simp [get_nil]
  | cons p a ih =>
    rw [List.cons_append, get_cons, get_cons]
    split
    · rfl
    · exact ih
theorem any_get (m : M) (n : Int) : (m.any fun p => decide (p.1 = n)) = (M.get m n).isSome := by
  induction m with
  | nil => rfl
  | cons p m ih =>
    rw [List.any_cons, get_cons]
    by_cases h : p.1 = n
    · rw [decide_eq_true h, if_pos h]; rfl
    · rw [decide_eq_false h, if_neg h, Bool.false_or]; exact ih
theorem get_map (m : M) (n j : Int) (t : T) : M.get (m.map fun p => if p.1 = n then (p.1, t) else p) j = (M.get m j).map fun x => if j = n then t else x := by
  induction m with
  | nil => rfl
  | cons p m ih =>
    rw [List.map_cons, get_cons, get_cons, ih]
    by_cases h : p.1 = n
    · rw [if_pos h]
      by_cases e : p.1 = j
      · rw [if_pos e, if_pos e, Option.map_some, if_pos (e.symm.trans h)]
      · rw [if_neg e, if_neg e]
    · rw [if_neg h]
      by_cases e : p.1 = j
      · rw [if_pos e, if_pos e, Option.map_some, if_neg (fun z => h (e.trans z))]
      · rw [if_neg e, if_neg e]
theorem get_put (m : M) (n j : Int) (t : T) : M.get (m.put n t) j = if j = n then some t else M.get m j := by
  unfold M.put
  by_cases a : (m.any fun p => decide (p.1 = n)) = true
  · rw [if_pos a, get_map]
    rw [any_get] at a
    by_cases e : j = n
    · obtain ⟨x, hx⟩ := Option.isSome_iff_exists.mp a
      rw [if_pos e, e, hx, Option.map_some, if_pos rfl]
    · rw [if_neg e]
      cases M.get m j with
      | none => rfl
      | some x => rw [Option.map_some, if_neg e]
  · rw [if_neg a, get_app, get_cons, get_nil]
    rw [any_get] at a
    by_cases e : j = n
    · rw [if_pos e.symm, if_pos e, e]
      cases q : M.get m n with
      | none => rfl
      | some x => rw [q] at a; exact (a rfl).elim
    · rw [if_neg (fun z => e z.symm), if_neg e, Option.or_none]
theorem put_len (m : M) (n : Int) (t : T) : (m.put n t).length ≤ m.length + 1 := by
  unfold M.put
  split
  · rw [List.length_map]; omega
  · rw [List.length_append, List.length_singleton]; exact Nat.le_refl _
theorem put_keys (m : M) (n : Int) (t : T) : (m.put n t).map (·.1) = if (M.get m n).isSome = true then m.map (·.1) else m.map (·.1) ++ [n] := by
  unfold M.put
  rw [any_get]
  split
  · rw [List.map_map]
    refine List.map_congr_left fun p _ => ?_
    show (if p.1 = n then (p.1, t) else p).1 = p.1
    split <;> rfl
  · rw [List.map_append]; rfl
theorem get_mem {m : M} {n : Int} {t : T} (h : M.get m n = some t) : (n, t) ∈ m := by
  induction m with
  | nil => cases h
  | cons p m ih =>
    rw [get_cons] at h
    split at h
    · rename_i e
      injection h with h
      rw [← e, ← h]
      exact List.mem_cons_self
    · exact List.mem_cons_of_mem _ (ih h)
theorem get_none {m : M} {n : Int} (h : M.get m n = none) : n ∉ m.map (·.1) := by
  induction m with
  | nil => simp
  | cons p m ih =>
    rw [get_cons] at h
    split at h
    · cases h
    · rename_i e
      intro z
      rcases List.mem_cons.mp z with z | z
      · exact e z.symm
      · exact ih h z
theorem mem_get {m : M} (hn : (m.map (·.1)).Nodup) {n : Int} {t : T} (h : (n, t) ∈ m) : M.get m n = some t := by
  induction m with
  | nil => cases h
  | cons p m ih =>
    rw [List.map_cons, List.nodup_cons] at hn
    rw [get_cons]
    rcases List.mem_cons.mp h with e | h
    · rw [← e, if_pos rfl]
    · rw [if_neg fun e => hn.1 (by rw [e]; exact List.mem_map.mpr ⟨_, h, rfl⟩)]
      exact ih hn.2 h
theorem mem_put {m : M} {n : Int} {t : T} {p : Int × T} (h : p ∈ m.put n t) : p = (n, t) ∨ p ∈ m := by
  unfold M.put at h
  split at h
  · obtain ⟨q, hq, e⟩ := List.mem_map.mp h
    split at e
    · rename_i c
      rw [c] at e
      exact .inl e.symm
    · exact .inr (e ▸ hq)
  · rcases List.mem_append.mp h with h | h
    · exact .inr h
    · exact .inl (List.mem_singleton.mp h)

/-- seals are right, things are things, no seal twice -/
structure Mok (m : M) : Prop where
  nd : (m.map (·.1)).Nodup
  sl : ∀ p ∈ m, sealOf p.2 = p.1 ∧ p.2.ok
theorem Mok.nil : Mok [] := ⟨List.nodup_nil, fun _ h => by cases h⟩
theorem Mok.put {m : M} (h : Mok m) {t : T} (ht : t.ok) : Mok (m.put (sealOf t) t) := by
  refine ⟨?_, fun p hp => ?_⟩
  · rw [put_keys]
    split
    · exact h.nd
    · rename_i c
      refine List.nodup_append.mpr ⟨h.nd, by simp, fun a ha b hb => ?_⟩
      rw [List.mem_singleton.mp hb]
      rintro rfl
      refine get_none ?_ ha
      cases e : M.get m (sealOf t) with
      | none => rfl
      | some x => rw [e] at c; exact (c rfl).elim
  · rcases mem_put hp with e | hp
    · rw [e]; exact ⟨rfl, ht⟩
    · exact h.sl p hp
theorem Mok.at {m : M} (h : Mok m) {n : Int} {t : T} (e : M.get m n = some t) : sealOf t = n ∧ t.ok := h.sl _ (get_mem e)

/-! ### laying many -/
def layAll (m : M) (l : List T) : M := l.foldl (fun m t => m.put (sealOf t) t) m
theorem layAll_nil (m : M) : layAll m [] = m := rfl
theorem layAll_app (m : M) (a b : List T) : layAll m (a ++ b) = layAll (layAll m a) b := List.foldl_append
theorem layAll_ok : ∀ {l : List T} {m : M}, Mok m → (∀ x ∈ l, x.ok) → Mok (layAll m l)
  | [], _, h, _ => h
  | t :: l, m, h, hl => layAll_ok (l := l) (m := m.put (sealOf t) t) (h.put (hl t List.mem_cons_self)) fun x hx => hl x (List.mem_cons_of_mem _ hx)
theorem layAll_len : ∀ (l : List T) (m : M), (layAll m l).length ≤ m.length + l.length
  | [], m => Nat.le_refl _
  | t :: l, m => by
    have h := layAll_len l (m.put (sealOf t) t)
    have q := put_len m (sealOf t) t
    rw [List.length_cons]
    exact Nat.le_trans h (by omega)
/-- one seal, one thing -/
def Con (l : List T) : Prop := ∀ x ∈ l, ∀ y ∈ l, sealOf x = sealOf y → x = y
theorem Con.tail {t : T} {l : List T} (h : Con (t :: l)) : Con l := fun x hx y hy => h x (List.mem_cons_of_mem _ hx) y (List.mem_cons_of_mem _ hy)
/-- whatever was laid -/
theorem layAll_from : ∀ {l : List T} {m : M} {n : Int} {u : T}, M.get (layAll m l) n = some u → (u ∈ l ∧ sealOf u = n) ∨ M.get m n = some u
  | [], _, _, _, h => .inr h
  | t :: l, m, n, u, h => by
    rcases layAll_from (l := l) h with ⟨q, e⟩ | q
    · exact .inl ⟨List.mem_cons_of_mem _ q, e⟩
    · rw [get_put] at q
      split at q
      · rename_i e
        injection q with q
        rw [← q]
        exact .inl ⟨List.mem_cons_self, e.symm⟩
      · exact .inr q
theorem layAll_old : ∀ {l : List T} {m : M} {n : Int}, (∀ y ∈ l, sealOf y ≠ n) → M.get (layAll m l) n = M.get m n
  | [], _, _, _ => rfl
  | t :: l, m, n, h => by
    have q := layAll_old (l := l) (m := m.put (sealOf t) t) (n := n) fun y hy => h y (List.mem_cons_of_mem _ hy)
    rw [get_put, if_neg fun e => h t List.mem_cons_self e.symm] at q
    exact q
theorem layAll_new {l : List T} {m : M} (hc : Con l) {x : T} (hx : x ∈ l) : M.get (layAll m l) (sealOf x) = some x := by
  induction l generalizing m with
  | nil => cases hx
  | cons t l ih =>
    by_cases c : x ∈ l
    · exact ih hc.tail c
    · rcases List.mem_cons.mp hx with e | hx
      · subst e
        show M.get (layAll (m.put (sealOf x) x) l) (sealOf x) = some x
        rw [layAll_old, get_put, if_pos rfl]
        intro y hy e
        exact c (hc y (List.mem_cons_of_mem _ hy) x List.mem_cons_self e ▸ hy)
      · exact absurd hx c

/-! ### a vault's state -/
structure VS where
  own : M
  ben : Option M
  noted : M
def plainS (m : M) : VS := ⟨m, none, []⟩
def readS (m : M) : VS := ⟨[], some m, []⟩
namespace VS
def bget (s : VS) (n : Int) : Option T := s.ben.bind fun m => M.get m n
def see (s : VS) (n : Int) : Option T := (M.get s.own n).or (s.bget n)
def rd (s : VS) (t : T) : VS := if (M.get s.own (sealOf t)).isSome = true then s else match s.ben with
  | none => s
  | some _ => { s with noted := s.noted.put (sealOf t) t }
def rds (s : VS) (l : List T) : VS := l.foldl rd s
def laid (s : VS) (t : T) : VS := { s with own := s.own.put (sealOf t) t }
def lays (s : VS) (l : List T) : VS := { s with own := layAll s.own l }
structure Ok (s : VS) : Prop where
  own : Mok s.own
  ben : ∀ m, s.ben = some m → Mok m
  noted : Mok s.noted
end VS
theorem rd_own (s : VS) (t : T) : (s.rd t).own = s.own := by unfold VS.rd; split; rfl; split <;> rfl
theorem rd_ben (s : VS) (t : T) : (s.rd t).ben = s.ben := by
  unfold VS.rd
  split
  · rfl
  · cases h : s.ben with
    | none => exact h
    | some m => rfl
theorem rd_noted (s : VS) (t : T) : (s.rd t).noted.length ≤ s.noted.length + 1 := by
  unfold VS.rd
  split
  · omega
  · cases h : s.ben with
    | none => simp
    | some m => exact put_len _ _ _
theorem rds_own : ∀ (l : List T) (s : VS), (s.rds l).own = s.own
  | [], _ => rfl
  | t :: l, s => by
    show ((s.rd t).rds l).own = s.own
    rw [rds_own l, rd_own]
theorem rds_ben : ∀ (l : List T) (s : VS), (s.rds l).ben = s.ben
  | [], _ => rfl
  | t :: l, s => by
    show ((s.rd t).rds l).ben = s.ben
    rw [rds_ben l, rd_ben]
theorem rds_noted : ∀ (l : List T) (s : VS), (s.rds l).noted.length ≤ s.noted.length + l.length
  | [], _ => Nat.le_refl _
  | t :: l, s => by
    have h := rds_noted l (s.rd t)
    have q := rd_noted s t
    show ((s.rd t).rds l).noted.length ≤ _
    rw [List.length_cons]
    omega
theorem rds_app (s : VS) (a b : List T) : s.rds (a ++ b) = (s.rds a).rds b := List.foldl_append
theorem see_rd (s : VS) (t : T) (n : Int) : (s.rd t).see n = s.see n := by unfold VS.see VS.bget; rw [rd_own, rd_ben]
theorem see_rds (s : VS) (l : List T) (n : Int) : (s.rds l).see n = s.see n := by unfold VS.see VS.bget; rw [rds_own, rds_ben]
theorem lays_app (s : VS) (a b : List T) : s.lays (a ++ b) = (s.lays a).lays b := by unfold VS.lays; rw [layAll_app]
theorem lays_nil (s : VS) : s.lays [] = s := rfl
theorem lays_one (s : VS) (t : T) : s.lays [t] = s.laid t := rfl
theorem VS.Ok.rd {s : VS} (h : s.Ok) {t : T} (ht : t.ok) : (s.rd t).Ok := by
  refine ⟨by rw [rd_own]; exact h.own, by rw [rd_ben]; exact h.ben, ?_⟩
  unfold VS.rd
  split
  · exact h.noted
  · cases e : s.ben with
    | none => exact h.noted
    | some m => exact h.noted.put ht
theorem VS.Ok.rds : ∀ {l : List T} {s : VS}, s.Ok → (∀ x ∈ l, x.ok) → (s.rds l).Ok
  | [], _, h, _ => h
  | t :: l, s, h, hl => VS.Ok.rds (l := l) (h.rd (hl t List.mem_cons_self)) fun x hx => hl x (List.mem_cons_of_mem _ hx)
theorem VS.Ok.lays {s : VS} (h : s.Ok) {l : List T} (hl : ∀ x ∈ l, x.ok) : (s.lays l).Ok := ⟨layAll_ok h.own hl, h.ben, h.noted⟩
theorem VS.Ok.see {s : VS} (h : s.Ok) {n : Int} {t : T} (e : s.see n = some t) : sealOf t = n ∧ t.ok := by
  unfold VS.see at e
  cases q : M.get s.own n with
  | some u =>
    rw [q] at e
    injection e with e
    rw [← e]
    exact h.own.at q
  | none =>
    rw [q] at e
    have e' : s.bget n = some t := e
    unfold VS.bget at e'
    cases b : s.ben with
    | none => rw [b] at e'; cases e'
    | some m =>
      rw [b] at e'
      exact (h.ben m b).at e'
/-- nothing that is laid clashes -/
def LayOK (s : VS) (l : List T) : Prop := (∀ x ∈ l, ∀ u, (s.bget (sealOf x) = some u ∨ M.get s.own (sealOf x) = some u) → u = x) ∧ Con l
theorem LayOK.nil (s : VS) : LayOK s [] := ⟨fun _ h => (nomatch h), fun _ h => (nomatch h)⟩
theorem LayOK_app {s : VS} {a b : List T} : LayOK s (a ++ b) ↔ LayOK s a ∧ LayOK (s.lays a) b := by
  constructor
  · rintro ⟨h1, h2⟩
    refine ⟨⟨fun x hx => h1 x (List.mem_append_left _ hx), fun x hx y hy => h2 x (List.mem_append_left _ hx) y (List.mem_append_left _ hy)⟩,
      fun x hx u hu => ?_, fun x hx y hy => h2 x (List.mem_append_right _ hx) y (List.mem_append_right _ hy)⟩
    rcases hu with hu | hu
    · exact h1 x (List.mem_append_right _ hx) u (.inl hu)
    · rcases layAll_from hu with ⟨q, e⟩ | q
      · exact h2 u (List.mem_append_left _ q) x (List.mem_append_right _ hx) e
      · exact h1 x (List.mem_append_right _ hx) u (.inr q)
  · rintro ⟨⟨h1, h2⟩, h3, h4⟩
    have cross : ∀ x ∈ a, ∀ y ∈ b, sealOf x = sealOf y → x = y := fun x hx y hy e => h3 y hy x (.inr (by rw [← e]; exact layAll_new h2 hx))
    refine ⟨fun x hx u hu => ?_, fun x hx y hy e => ?_⟩
    · rcases List.mem_append.mp hx with hx | hx
      · exact h1 x hx u hu
      · rcases hu with hu | hu
        · exact h3 x hx u (.inl hu)
        · by_cases c : ∃ y ∈ a, sealOf y = sealOf x
          · obtain ⟨y, hy, e⟩ := c
            have e1 := cross y hy x hx e
            rw [← e1]
            exact h1 y hy u (.inr (by rw [e]; exact hu))
          · refine h3 x hx u (.inr ?_)
            show M.get (layAll s.own a) (sealOf x) = some u
            rw [layAll_old fun y hy e => c ⟨y, hy, e⟩]
            exact hu
    · rcases List.mem_append.mp hx with hx | hx
      · rcases List.mem_append.mp hy with hy | hy
        · exact h2 x hx y hy e
        · exact cross x hx y hy e
      · rcases List.mem_append.mp hy with hy | hy
        · exact (cross y hy x hx e.symm).symm
        · exact h4 x hx y hy e
theorem LayOK_one {s : VS} {x : T} : LayOK s [x] ↔ ∀ u, (s.bget (sealOf x) = some u ∨ M.get s.own (sealOf x) = some u) → u = x := by
  constructor
  · exact fun h => h.1 x List.mem_cons_self
  · refine fun h => ⟨fun y hy => by rw [List.mem_singleton.mp hy]; exact h, fun y hy z hz _ => ?_⟩
    rw [List.mem_singleton.mp hy, List.mem_singleton.mp hz]
theorem LayOK_rds {s : VS} {rs l : List T} : LayOK (s.rds rs) l ↔ LayOK s l := by
  unfold LayOK VS.bget
  rw [rds_own, rds_ben]

/-! ### all things of a vault -/
def sortI (l : List Int) : List Int := l.mergeSort fun a b => decide (a ≤ b)
theorem sortI_perm (l : List Int) : (sortI l).Perm l := List.mergeSort_perm _ _
theorem sortI_eq {l ys : List Int} (h : ys.Perm l) (hs : ys.Pairwise (· ≤ ·)) : ys = sortI l := by
  refine List.Perm.eq_of_pairwise (le := fun a b => a ≤ b) (fun a b _ _ h1 h2 => Int.le_antisymm h1 h2) hs ?_ (h.trans (sortI_perm l).symm)
  have q := List.pairwise_mergeSort (le := fun a b : Int => decide (a ≤ b)) (fun a b c h1 h2 => by simp only [decide_eq_true_eq] at *; omega) (fun a b => by simp only [Bool.or_eq_true, decide_eq_true_eq]; omega) l
  exact q.imp fun h => of_decide_eq_true h
def things (m : M) : List T := (sortI (m.map (·.1))).map fun n => (M.get m n).getD .non
theorem things_nil : things [] = [] := by simp [things, sortI]
theorem things_len (m : M) : (things m).length = m.length := by
  unfold things
  rw [List.length_map, (sortI_perm _).length_eq, List.length_map]
theorem key_get {m : M} (h : Mok m) {n : Int} (hn : n ∈ m.map (·.1)) : ∃ t, M.get m n = some t ∧ sealOf t = n ∧ t.ok := by
  obtain ⟨p, hp, e⟩ := List.mem_map.mp hn
  have q := mem_get h.nd (show (n, p.2) ∈ m from by rw [← e]; exact hp)
  exact ⟨p.2, q, h.at q⟩
theorem things_mem {m : M} (h : Mok m) {x : T} : x ∈ things m ↔ M.get m (sealOf x) = some x := by
  unfold things
  constructor
  · intro hx
    obtain ⟨n, hn, e⟩ := List.mem_map.mp hx
    obtain ⟨t, ht, hs, _⟩ := key_get h ((sortI_perm _).mem_iff.mp hn)
    rw [ht] at e
    have e' : t = x := e
    rw [← e', hs]
    exact ht
  · intro hx
    refine List.mem_map.mpr ⟨sealOf x, (sortI_perm _).mem_iff.mpr (List.mem_map.mpr ⟨_, get_mem hx, rfl⟩), ?_⟩
    rw [hx]
    rfl
theorem things_seals {m : M} (h : Mok m) : (things m).map sealOf = sortI (m.map (·.1)) := by
  unfold things
  rw [List.map_map]
  refine (List.map_congr_left fun n hn => ?_).trans (List.map_id _)
  obtain ⟨t, ht, hs, _⟩ := key_get h ((sortI_perm _).mem_iff.mp hn)
  show sealOf ((M.get m n).getD .non) = n
  rw [ht]
  exact hs
theorem things_nd {m : M} (h : Mok m) : ((things m).map sealOf).Nodup := by
  rw [things_seals h]
  exact (sortI_perm _).nodup_iff.mpr h.nd
theorem things_ok {m : M} (h : Mok m) : ∀ x ∈ things m, x.ok := fun x hx => (h.at ((things_mem h).mp hx)).2
theorem con_of_nd : ∀ {l : List T}, (l.map sealOf).Nodup → Con l
  | [], _ => fun _ h => by cases h
  | t :: l, h => by
    rw [List.map_cons, List.nodup_cons] at h
    have ih := con_of_nd h.2
    intro x hx y hy e
    rcases List.mem_cons.mp hx with hx | hx
    · rcases List.mem_cons.mp hy with hy | hy
      · rw [hx, hy]
      · exact absurd (List.mem_map.mpr ⟨y, hy, by rw [← e, hx]⟩) h.1
    · rcases List.mem_cons.mp hy with hy | hy
      · exact absurd (List.mem_map.mpr ⟨x, hx, by rw [e, hy]⟩) h.1
      · exact ih x hx y hy e
theorem things_con {m : M} (h : Mok m) : Con (things m) := con_of_nd (things_nd h)
/-- laid anew, all is as it was -/
theorem copy_get {m : M} (h : Mok m) (n : Int) : M.get (layAll [] (things m)) n = M.get m n := by
  cases e : M.get m n with
  | some t =>
    have hs := (h.at e).1
    rw [← hs]
    exact layAll_new (things_con h) ((things_mem h).mpr (by rw [hs]; exact e))
  | none =>
    cases q : M.get (layAll [] (things m)) n with
    | none => rfl
    | some u =>
      rcases layAll_from q with ⟨hu, es⟩ | z
      · have z := (things_mem h).mp hu
        rw [es, e] at z
        cases z
      · cases z

/-! ### what becomes of a paper -/
inductive Shows (t : Tr) (key w : T) (W m : M) : Str → Prop
  | refused (h : ∀ x ∈ putR t key, M.get W (sealOf x) = some x ∨ M.get W (sealOf x) = none) (e : ∃ x ∈ putR t key, M.get W (sealOf x) = none) : Shows t key w W m "refused"
  | right (h : ∀ x ∈ putR t key, M.get W (sealOf x) = some x) (l : LayOK (plainS W) (putL t key w)) (hm : ∀ x ∈ putR t key, M.get m (sealOf x) = some x) (lm : LayOK (readS m) (putL t key w)) : Shows t key w W m "right"
  | clash (h : ∀ x ∈ putR t key, M.get W (sealOf x) = some x) (l : LayOK (plainS W) (putL t key w)) (hm : ∀ x ∈ putR t key, M.get m (sealOf x) = some x) (lm : ¬ LayOK (readS m) (putL t key w)) : Shows t key w W m "clash"
  | wrong (h : ∀ x ∈ putR t key, M.get W (sealOf x) = some x) (l : LayOK (plainS W) (putL t key w)) (hm : m = []) (e : putR t key ≠ []) : Shows t key w W m "wrong"

section
variable {m : M} {t : Tr} {key w : T} (hm : Mok m) (hin : ∀ x ∈ t.nodes, M.get m (sealOf x) = some x) (hl : LayOK (readS m) (putL t key w))
include hm hin
theorem rd_con : Con (putR t key) := fun x hx y hy e => by
  have a := hin x (putR_nodes x hx)
  have b := hin y (putR_nodes y hy)
  rw [e, b] at a
  injection a with a
  exact a.symm
theorem rd_ok : ∀ x ∈ putR t key, x.ok := fun x hx => (hm.at (hin x (putR_nodes x hx))).2
theorem rd_mok : Mok (layAll [] (putR t key)) := layAll_ok .nil (rd_ok hm hin)
/-- the paper holds just what was read -/
theorem paper_mem {x : T} : x ∈ things (layAll [] (putR t key)) ↔ x ∈ putR t key := by
  rw [things_mem (rd_mok hm hin)]
  constructor
  · intro h
    rcases layAll_from h with ⟨q, _⟩ | q
    · exact q
    · cases q
  · exact fun h => layAll_new (rd_con hm hin) h
theorem paper_nil : things (layAll [] (putR t key)) = [] ↔ putR t key = [] := by
  constructor
  · intro h
    cases e : putR t key with
    | nil => rfl
    | cons x l =>
      have q := (paper_mem hm hin (t := t) (key := key) (x := x)).mpr (by rw [e]; exact List.mem_cons_self)
      rw [h] at q
      cases q
  · intro h
    rw [h]
    exact things_nil
theorem paper_get : ∀ x ∈ putR t key, M.get (layAll [] (things (layAll [] (putR t key)))) (sealOf x) = some x := fun x hx => by
  rw [copy_get (rd_mok hm hin)]
  exact layAll_new (rd_con hm hin) hx
theorem paper_from {n : Int} {u : T} (h : M.get (layAll [] (things (layAll [] (putR t key)))) n = some u) : M.get m n = some u := by
  rw [copy_get (rd_mok hm hin)] at h
  rcases layAll_from h with ⟨q, e⟩ | q
  · rw [← e]
    exact hin u (putR_nodes u q)
  · cases q
include hl
theorem paper_lay : LayOK (plainS (layAll [] (things (layAll [] (putR t key))))) (putL t key w) := by
  refine ⟨fun x hx u hu => ?_, hl.2⟩
  rcases hu with hu | hu
  · cases hu
  · exact hl.1 x hx u (.inl (paper_from hm hin hu))
theorem shows_right : Shows t key w (layAll [] (things (layAll [] (putR t key)))) m "right" :=
  .right (paper_get hm hin) (paper_lay hm hin hl) (fun x hx => hin x (putR_nodes x hx)) hl
theorem shows_empty : Shows t key w (layAll [] (things (layAll [] (putR t key)))) [] (if things (layAll [] (putR t key)) = [] then "right" else "wrong") := by
  split
  · rename_i c
    have e := (paper_nil hm hin).mp c
    refine .right (paper_get hm hin) (paper_lay hm hin hl) (fun x hx => by rw [e] at hx; cases hx) ⟨fun x hx u hu => ?_, hl.2⟩
    rcases hu with hu | hu <;> cases hu
  · rename_i c
    exact .wrong (paper_get hm hin) (paper_lay hm hin hl) rfl fun e => c ((paper_nil hm hin).mpr e)
/-- a paper that lacks its last thing -/
theorem shows_lack (m' : M) (hc : things (layAll [] (putR t key)) ≠ []) : Shows t key w (layAll [] (things (layAll [] (putR t key))).dropLast) m' "refused" := by
  have hP := rd_mok hm hin (t := t) (key := key)
  have hs : ∀ x ∈ (things (layAll [] (putR t key))).dropLast, x ∈ putR t key := fun x hx => (paper_mem hm hin).mp (List.dropLast_subset _ hx)
  have back : ∀ {n : Int} {u : T}, M.get (layAll [] (things (layAll [] (putR t key))).dropLast) n = some u → u ∈ (things (layAll [] (putR t key))).dropLast ∧ sealOf u = n := fun {n u} h => by
    rcases layAll_from h with q | q
    · exact q
    · cases q
  refine .refused (fun x hx => ?_) ⟨(things (layAll [] (putR t key))).getLast hc, (paper_mem hm hin).mp (List.getLast_mem hc), ?_⟩
  · cases e : M.get (layAll [] (things (layAll [] (putR t key))).dropLast) (sealOf x) with
    | none => exact .inr rfl
    | some u =>
      obtain ⟨q, es⟩ := back e
      rw [rd_con hm hin u (hs u q) x hx es]
      exact .inl rfl
  · cases e : M.get (layAll [] (things (layAll [] (putR t key))).dropLast) (sealOf ((things (layAll [] (putR t key))).getLast hc)) with
    | none => rfl
    | some u =>
      obtain ⟨q, es⟩ := back e
      have nd := things_nd hP
      rw [← List.dropLast_concat_getLast hc, List.map_append, List.nodup_append] at nd
      exact absurd es (nd.2.2 _ (List.mem_map.mpr ⟨u, q, rfl⟩) _ (List.mem_map.mpr ⟨_, List.mem_singleton.mpr rfl, rfl⟩))
/-- the paper without its last thing, whatever it is -/
theorem shows_cut (m' : M) (hm' : m' = m ∨ m' = []) : ∃ r, Shows t key w (layAll [] (things (layAll [] (putR t key))).dropLast) m' r ∧ (things (layAll [] (putR t key)) ≠ [] → r = "refused") := by
  by_cases hc : things (layAll [] (putR t key)) = []
  · have e := (paper_nil hm hin).mp hc
    refine ⟨"right", .right (fun x hx => by rw [e] at hx; cases hx) ?_ (fun x hx => by rw [e] at hx; cases hx) ?_, fun z => absurd hc z⟩
    · rw [hc]
      refine ⟨fun x hx u hu => ?_, hl.2⟩
      rcases hu with hu | hu <;> cases hu
    · rcases hm' with e | e
      · rw [e]; exact hl
      · rw [e]
        refine ⟨fun x hx u hu => ?_, hl.2⟩
        rcases hu with hu | hu <;> cases hu
  · exact ⟨"refused", shows_lack hm hin hl m' hc, fun _ => rfl⟩
/-- the second keeper: a twin of a new node was laid into it -/
theorem shows_twin {x : T} (hx : x ∈ things (layAll (layAll [] (things m)) (putL t key w))) (hn : x ∉ things m) (ht : x.twin ≠ x)
    (ho : Mok (layAll (layAll [] (things m)) (putL t key w))) (hlay : LayOK (plainS (layAll [] (things m))) [x.twin]) :
    Shows t key w (layAll [] (things (layAll [] (putR t key)))) ((plainS (layAll [] (things m))).lays [x.twin]).own "clash" := by
  have hxl : x ∈ putL t key w := by
    rcases layAll_from ((things_mem ho).mp hx) with ⟨q, _⟩ | q
    · exact q
    · rw [copy_get hm] at q
      exact absurd ((things_mem hm).mpr q) hn
  have e : ((plainS (layAll [] (things m))).lays [x.twin]).own = M.put (layAll [] (things m)) (sealOf x) x.twin := by
    show M.put (layAll [] (things m)) (sealOf x.twin) x.twin = _
    rw [seal_twin]
  rw [e]
  refine .clash (paper_get hm hin) (paper_lay hm hin hl) (fun y hy => ?_) (fun z => ht (z.1 x hxl x.twin (.inl ?_)))
  · rw [get_put]
    split
    · rename_i es
      have q : M.get (layAll [] (things m)) (sealOf x.twin) = some y := by
        rw [seal_twin, ← es, copy_get hm]
        exact hin y (putR_nodes y hy)
      rw [LayOK_one.mp hlay y (.inr q)]
    · rw [copy_get hm]
      exact hin y (putR_nodes y hy)
  · show M.get (M.put (layAll [] (things m)) (sealOf x) x.twin) (sealOf x) = some x.twin
    rw [get_put, if_pos rfl]
end
end PV
/-! R1: rules of this proof's own, over the hand layer. -/
namespace PV
open PySem PySem.Spec L2

/-! ### calls, what they let out wished for by slots -/
theorem pat {CX : CXT} {X : Cx} {E : XK} (h : Passes CX X E) (σ : L2.St) : PassesAt CX X σ E := fun pins H s e s' I c => h pins σ H s e s' I c
section
variable {X : Cx} {CX : CXT} {k : Nat} {f C : Addr} {fd : FuncData} {ps : List Str} {sp : Sp} {E : L2.St → XK} {x m : Str} {p pos apos : Pos} {e o : Expr} {es : List Expr} {ta : TE} {t : TA} {pl : Sem Bool}
/-- o.m(e, ..), o an instance of the class at C -/
def tMethQ (C : Addr) (m : Str) (sp : Sp) (E : L2.St → XK) (ta : TE) (t : TA) : TE := fun σ H Q => ta σ H fun x H1 => ∃ a dx fs, x = .ref a ∧ H1 a = some (.ins C dx fs) ∧ fs.lookup m = none ∧ t σ H1 fun vs H2 => sp (x :: vs) H2 Q (E σ)
theorem pe_methQ (he : PE X o ta) (c : Cls X.K C) (hm : Meth X.K C m f) (F : FnOk X.prog X.w X.K X.mg X.base CX k f fd ps sp) (hr : Room k X.A) (hb : Binds X.K fd ps []) (hx : ∀ σ, PassesAt CX X σ (E σ)) (ha : PA X (e :: es) t)
    (hst : starEach (e :: es) X.env = (false, eval e X.env) :: starEach es X.env := by rfl) (hpl : (backTo pos (starEach es X.env)).any (·.1) = false := by rfl)
    (ht : eval (.Call (.Attribute o m apos) (e :: es) [] pos) X.env = (do
      let ov ← eval o X.env
      standAt apos.atName
      let (f, first) ← holding [ov] (getMethod ov m pl)
      callWith pos f first (backTo pos (starEach (e :: es) X.env)) (backToKw pos (keywordEach [] X.env))) := by rfl) :
    PE X (.Call (.Attribute o m apos) (e :: es) [] pos) (tMethQ C m sp E ta t) := by
  refine ⟨fun pins s σ H Q I h => PySem.W.methodCall_KW (pl := pl) (thn (he.run pins s σ H _ I h) fun u s1 ⟨x, H1, I1, rx, a, dx, fs, ex, ea, l, q⟩ => ?_) ht⟩
  subst ex
  obtain rfl : u = Value.ref a := rx
  refine getmeth_ok I1 ea c hm l (PySem.W.callWith_K (first := [.ref a]) (h₀ := X.base) I.ok.mod.kin hm.kp (thn (ha.run pos pins s1 σ H1 _ I1 q) fun us s2 ⟨vs, H2, I2, r, q2⟩ => ⟨I2.kIn, ?_⟩) hst hpl)
  exact run_fnS (us := .ref a :: us) (vs := .ref a :: vs) F hr hb (hx σ) I2 (.cons rfl r) q2
theorem pe_methQ0 (he : PE X o ta) (c : Cls X.K C) (hm : Meth X.K C m f) (F : FnOk X.prog X.w X.K X.mg X.base CX k f fd ps sp) (hr : Room k X.A) (hb : Binds X.K fd ps []) (hx : ∀ σ, PassesAt CX X σ (E σ))
    (ht : eval (.Call (.Attribute o m apos) [] [] pos) X.env = (do
      let ov ← eval o X.env
      standAt apos.atName
      let (f, first) ← holding [ov] (getMethod ov m pl)
      callWith pos f first (backTo pos (starEach [] X.env)) (backToKw pos (keywordEach [] X.env))) := by rfl) :
    PE X (.Call (.Attribute o m apos) [] [] pos) (tMethQ C m sp E ta tNil) := by
  refine ⟨fun pins s σ H Q I h => PySem.W.methodCall_KW (pl := pl) (thn (he.run pins s σ H _ I h) fun u s1 ⟨x, H1, I1, rx, a, dx, fs, ex, ea, l, q⟩ => ?_) ht⟩
  subst ex
  obtain rfl : u = Value.ref a := rx
  exact getmeth_ok I1 ea c hm l (PySem.W.callWith_K0 (first := [.ref a]) I1.kIn hm.kp (run_fnS (us := [.ref a]) (vs := [.ref a]) F hr hb (hx σ) I1 (.cons rfl .nil) q))
/-- C.m(e, ..), m a plain function of the class at C -/
structure CFun (K : PySem.W.Frag) (C : Addr) (m : Str) (f : Addr) : Prop where
  rd : PySem.W.readsIn K C (.type "type") = true
  ga : PySem.W.specialIn K (.ref C) "__getattribute__" = some (some (.builtin "type.__getattribute__"))
  at_ : PySem.W.findCls K (.ref C) (.type "type") m = some (.val (.ref f))
  kp : PySem.W.keepIn K (.ref f) = true
theorem pe_cfun {y : Str} {p2 : Pos} (hg : Gl X y) (hm : X.mg y = some (.ref C)) (c : CFun X.K C m f) (F : FnOk X.prog X.w X.K X.mg X.base CX k f fd ps sp) (hr : Room k X.A) (hb : Binds X.K fd ps []) (hx : ∀ σ, PassesAt CX X σ (E σ)) (ha : PA X (e :: es) t)
    (hdb : (y == ("__debug__" : Str)) = false := by decide)
    (hst : starEach (e :: es) X.env = (false, eval e X.env) :: starEach es X.env := by rfl) (hpl : (backTo pos (starEach es X.env)).any (·.1) = false := by rfl)
    (ht : eval (.Call (.Attribute (.Name y p2) m apos) (e :: es) [] pos) X.env = (do
      let ov ← eval (.Name y p2) X.env
      standAt apos.atName
      let (f, first) ← holding [ov] (getMethod ov m pl)
      callWith pos f first (backTo pos (starEach (e :: es) X.env)) (backToKw pos (keywordEach [] X.env))) := by rfl) :
    PE X (.Call (.Attribute (.Name y p2) m apos) (e :: es) [] pos) (tCallS sp E t) := by
  refine ⟨fun pins s σ H Q I h => PySem.W.methodCall_KW (pl := pl) (ld_glob I hg hm ?_ hdb) ht⟩
  refine PySem.W.method_cls I.kIn c.ga (PySem.W.cls_value I.kIn c.rd c.at_ (handed_of (v := .ref f) rfl) ?_)
  exact PySem.W.callWith_K (h₀ := X.base) I.ok.mod.kin c.kp (thn (ha.run pos pins _ σ H _ (I.tok _) h) fun us s1 ⟨vs, H1, I1, r, q⟩ => ⟨I1.kIn, run_fnS F hr hb (hx σ) I1 r q⟩) hst hpl
/-- V.__init__(self, ..), V an own class over ValueError without own __init__; what it leaves of the error is not told -/
structure VInit (K : PySem.W.Frag) (C : Addr) : Prop where
  rd : PySem.W.readsIn K C (.type "type") = true
  ga : PySem.W.specialIn K (.ref C) "__getattribute__" = some (some (.builtin "type.__getattribute__"))
  at_ : PySem.W.findCls K (.ref C) (.type "type") "__init__" = some (.val (.builtin "ValueError.__init__"))
theorem pe_vinit {y : Str} {p2 : Pos} (hg : Gl X y) (hm : X.mg y = some (.ref C)) (c : VInit X.K C) (ha : PA X (e :: es) t)
    (hdb : (y == ("__debug__" : Str)) = false := by decide)
    (hst : starEach (e :: es) X.env = (false, eval e X.env) :: starEach es X.env := by rfl) (hpl : (backTo pos (starEach es X.env)).any (·.1) = false := by rfl)
    (ht : eval (.Call (.Attribute (.Name y p2) "__init__" apos) (e :: es) [] pos) X.env = (do
      let ov ← eval (.Name y p2) X.env
      standAt apos.atName
      let (f, first) ← holding [ov] (getMethod ov "__init__" pl)
      callWith pos f first (backTo pos (starEach (e :: es) X.env)) (backToKw pos (keywordEach [] X.env))) := by rfl) :
    PE X (.Call (.Attribute (.Name y p2) "__init__" apos) (e :: es) [] pos) (tVeI X.K t) := by
  refine ⟨fun pins s σ H Q I h => PySem.W.methodCall_KW (pl := pl) (ld_glob I hg hm ?_ hdb) ht⟩
  refine PySem.W.method_cls I.kIn c.ga (PySem.W.cls_value I.kIn c.rd c.at_ (by decide +kernel) ?_)
  refine PyProof.Rows.callWith_method1 (thn (ha.run pos pins _ σ H _ (I.tok _) h) fun us s1 ⟨vs, H1, I1, r1, a, C', ws, ev, hl, T, ea, q⟩ => ?_) hst hpl
  subst ev
  cases r1 with
  | @cons _ u0 _ ur ra rw' =>
    obtain rfl : u0 = Value.ref a := ra
    exact oinit_ok T I1 ea (by rw [← Paired.length rw', sizeLine_eq]; omega) fun s' J => ⟨.non, H1, J, rfl, q⟩
end

/-! ### a text times an int -/
theorem op_mul_str {X : Cx} : OpR X (binaryOp .Mult) (fun x y H Q => ∃ z n, x = .str z ∧ y = .int n ∧ PySem.MulOk z n ∧ Q (.str (Txt.mul z n)) H) := by
  intro pins s σ H x y v u Q I rx ry h
  obtain ⟨z, n, rfl, rfl, hok, q⟩ := h
  obtain ⟨t, rfl⟩ := rx
  obtain ⟨t', rfl⟩ := ry
  exact SB.mul hok fun t' k => ⟨.str _, H, I.tok _, ⟨_, rfl⟩, q⟩

/-! ### sorted(d), d a dict with whole numbers as keys, however many -/
theorem call_sortedN {X : Cx} (hcalm : X.calm = true) : CallR X (.builtin "sorted") (fun xs H Q => ∃ (a : Addr) (kvs : List (Key × V)) (ks : List Int), xs = [.ref a] ∧ H a = some (.dK kvs) ∧ kvs.map (·.1) = ks.map Sum.inl ∧
    ∀ (ys : List Int) (p : Addr), ys.Perm ks → ys.Pairwise (· ≤ ·) → H p = none → Q (.ref p) (upd H p (.lst (ys.map V.int)))) := by
  rintro pins s σ H xs us Q I r ⟨a, kvs, ks, rfl, hd, hks, q⟩
  rw [Vals.ref1 r]
  obtain ⟨hz, lo, vs, rel, dd⟩ := dk_of I.hok hd
  obtain ⟨ep, hat⟩ := dd.dictAt
  have hkeys : vs.map (·.1) = ks.map Sum.inl := rel.keys.symm.trans hks
  have hl : vs.length = ks.length := by simpa using congrArg List.length hkeys
  have hz' : vs.length ≤ sizeLine := by rw [← rel.length]; exact hz
  refine Calls.call_function_entry PyProof.Rows.kind_sorted PyProof.Rows.plain_sorted PyProof.Rows.entry_sorted (PyProof.Rows.args_sorted1 _) ?_
  unfold Builtin.«sorted»
  refine wpAny_bind (m := checkCount "sorted" 1 1 _) (wpAny_pure (wpAny_bind (PySem.W.kdu_collect (A := X.A.in1) (PySem.W.kdl_dict (knd := mixKind X.prog X.w) (kvs := vs) (ep := ep) lo) (I.ok.hd hcalm) hat hz' fun h' tk acc hk hacc => ?_)))
  have hal : acc.toList.length = ks.length := by rw [Array.length_toList, hacc.1, hl]
  have hS : PyProof.Rows.IntsAre acc.toList ks := ints_each hal fun j v e => by
    obtain ⟨k, x, e1, e2⟩ := hacc.2 j v (by rw [← Array.getElem?_toList]; exact e)
    have e3 : (ks.map (Sum.inl : Int → Key))[j]? = some k := by rw [← hkeys, List.getElem?_map, e1]; rfl
    rw [List.getElem?_map] at e3
    obtain ⟨y, e4, e5⟩ := Option.map_eq_some_iff.mp e3
    subst e5
    rcases keyIs_shape (show keyIs (Sum.inl y) v = true from e2) with ⟨i, t, ek, ev⟩ | ⟨z, t, ek, ev⟩
    · cases ek
      exact ⟨y, t, e4, ev⟩
    · cases ek
  have I1 : Inv X pins σ H { s with heap := h', toks := tk } := I.kept hk
  refine wpAny_bind (wpAny_newList ?_ (by rw [hal, ← hl]; exact hz'))
  have hoL : (h'.push (PyProof.Rows.seqObj "list" acc.toList.toArray 0)).get? h'.objs.size = some (PyProof.Rows.seqObj "list" acc.toList.toArray 0) := Heap.get?_push_size _ rfl
  show wpAny _ _ _ _ _ { s with heap := h'.push (PyProof.Rows.seqObj "list" acc.toList.toArray 0), toks := tk }
  refine wpAny_bind (wpAny_holding (wpAny_call_entry PyProof.Rows.slot_list_sort ⟨_, hoL, rfl⟩ PyProof.Rows.entry_list_sort
    (SrtO.list_sort_ord SrtO.swo_int hoL (by rw [hal, ← hl]; exact hz') (fun h2 => SrtO.ints_sortable hS h2) fun out h1 h2 => ⟨.none, rfl, ?_⟩) (PyProof.Rows.args_list_sort _)))
  obtain ⟨k1, k2, k3⟩ := SrtO.ints_out hS h1 h2
  obtain ⟨e', he'⟩ := PyProof.Rows.sortedHeap_at (vs := acc.toList) (out := out.toArray) hoL
  have hlen : ((out.map SrtO.iv).map V.int).length ≤ sizeLine := by rw [List.length_map, k2.length_eq, ← hl]; exact hz'
  refine wpAny_pure ⟨_, rfl, .ref h'.objs.size, upd H h'.objs.size (.lst ((out.map SrtO.iv).map V.int)), I1.laid (t' := tk) (fun b u e => ?_) (Nat.le_refl _)
    (show ObjOk X.prog X.w _ _ _ (.lst ((out.map SrtO.iv).map V.int)) from ⟨hlen, out, e', vals_of_ints k1, he'⟩), rfl, q _ _ k2 k3 (I1.hok.fresh (Nat.le_refl _))⟩
  have hb : b < h'.objs.size := Heap.lt_size e
  rw [PyProof.Rows.sortedHeap_old (Nat.ne_of_lt hb) (by rw [PyProof.Rows.size_push']; exact Nat.lt_succ_of_lt hb)]
  exact Heap.get?_push_of_some _ e
end PV
/-! R2: try with clauses that name one class or a tuple of classes. -/
namespace PV
open PySem PySem.Spec L2

/-- a clause's test: what it gives and what it then matches -/
def Tests (X : Cx) (t : Expr) (cs : List Value) : Prop := ∀ (a : Addr) (oe : Obj) (pn : List (Addr × Obj)) (s : Shared) (σ : L2.St) (H : Hp) (cls : Value) (b : Bool) (Q : Value → Shared → Prop) (E : Value → Shared → Prop),
  Inv (X.suite a ((a, oe) :: pn)) [] σ H s → PySem.W.Looks (model X.prog X.w) s.heap (typeOf (.ref a)) cls → PySem.W.exmAny X.K cls cs = some b →
  (∀ c h', (∀ u o, s.heap.get? u = some o → h'.get? u = some o) → PySem.W.Looks (model X.prog X.w) h' (excMatches (.ref a) c) b → Q c { s with heap := h' }) → wpAny (model X.prog X.w) (X.A.mark (some (.ref a))) (eval t X.env) Q E s
theorem name_at {X : Cx} {x : Str} {c : Value} (hc : Names X x c) {a : Addr} {oe : Obj} {pn : List (Addr × Obj)} {s : Shared} {σ : L2.St} {H : Hp} {np : Pos} {Q : Value → Shared → Prop} {E : Value → Shared → Prop}
    (I : Inv (X.suite a ((a, oe) :: pn)) [] σ H s) (q : Q c s) : wpAny (model X.prog X.w) (X.A.mark (some (.ref a))) (eval (.Name x np) X.env) Q E s := by
  obtain ⟨hg, hdbg, hm | ⟨hm, hv, hnn⟩⟩ := hc
  · exact ld_glob (X := X.suite a ((a, oe) :: pn)) I hg hm q hdbg
  · exact ld_blt (X := X.suite a ((a, oe) :: pn)) I hg hm hv q hnn hdbg
theorem tests_one {X : Cx} {x : Str} {c : Value} {np : Pos} (hc : Names X x c) : Tests X (.Name x np) [c] := by
  intro a oe pn s σ H cls b Q E I LT hx q
  obtain ⟨b1, d1, h1, h2, e⟩ := PySem.W.exmAny_cons hx
  cases h2
  rw [Bool.or_false] at e
  subst e
  exact name_at hc I (q c s.heap (fun _ _ z => z) (PySem.W.exm_one I.kIn LT h1))
theorem tests_two {X : Cx} {x1 x2 : Str} {c1 c2 : Value} {p1 p2 tp : Pos} {kk : Nat} (n1 : Names X x1 c1) (n2 : Names X x2 c2) : Tests X (.Tuple [.Name x1 p1, .Name x2 p2] kk tp) [c1, c2] := by
  intro a oe pn s σ H cls b Q E I LT hx q
  refine wpAny_Tuple (wpAny_items_cons (name_at n1 I (wpAny_items_cons (name_at n2 I (wpAny_items_nil ⟨by show 2 ≤ sizeLine; decide, ?_⟩)))))
  have kp : ∀ u o, s.heap.get? u = some o → (s.heap.push { cls := .type "tuple", data := .seq [c1, c2].toArray }).get? u = some o := fun _ _ z => Heap.get?_push_of_some _ z
  exact q _ _ kp (PySem.W.exm_tup2 (I.kIn.keeps kp) (LT.keeps kp) (Heap.get?_push_size s.heap rfl) hx)
theorem tests_three {X : Cx} {x1 x2 x3 : Str} {c1 c2 c3 : Value} {p1 p2 p3 tp : Pos} {kk : Nat} (n1 : Names X x1 c1) (n2 : Names X x2 c2) (n3 : Names X x3 c3) : Tests X (.Tuple [.Name x1 p1, .Name x2 p2, .Name x3 p3] kk tp) [c1, c2, c3] := by
  intro a oe pn s σ H cls b Q E I LT hx q
  refine wpAny_Tuple (wpAny_items_cons (name_at n1 I (wpAny_items_cons (name_at n2 I (wpAny_items_cons (name_at n3 I (wpAny_items_nil ⟨by show 3 ≤ sizeLine; decide, ?_⟩)))))))
  have kp : ∀ u o, s.heap.get? u = some o → (s.heap.push { cls := .type "tuple", data := .seq [c1, c2, c3].toArray }).get? u = some o := fun _ _ z => Heap.get?_push_of_some _ z
  exact q _ _ kp (PySem.W.exm_tup3 (I.kIn.keeps kp) (LT.keeps kp) (Heap.get?_push_size s.heap rfl) hx)
/-- what the clauses wish -/
def wHs (K : PySem.W.Frag) (Wout : WX) (D : Ends) : List (List Value × (Addr → Value → Option Addr → TS)) → WX
  | [] => Wout
  | (cs, ts) :: r => fun cls d σ H => ∃ b, PySem.W.exmAny K cls cs = some b ∧ (b = true → ∀ a, H a = none → ts a cls d D σ H) ∧ (b = false → wHs K Wout D r cls d σ H)
inductive Hds (X : Cx) : List ExceptHandler → List (List Value × (Addr → Value → Option Addr → TS)) → Prop
  | nil : Hds X [] []
  | cons {t : Expr} {cs : List Value} {ts : Addr → Value → Option Addr → TS} {b₀ : Stmt} {suite : List Stmt} {pos' : Pos} {hds : List ExceptHandler} {l : List (List Value × (Addr → Value → Option Addr → TS))} (hc : Tests X t cs)
      (hsu : ∀ (a : Addr) (oe : Obj) (cls : Value) (d : Option Addr) (pn : List (Addr × Obj)), Zc cls d oe → (∃ vs, oe.data = .fields vs) → PSs (X.suite a ((a, oe) :: pn)) (b₀ :: suite) (ts a cls d)) (r : Hds X hds l) :
      Hds X (.ExceptHandler (some t) none (b₀ :: suite) pos' :: hds) ((cs, ts) :: l)
theorem fly_keeps {B h h' : Heap} {l : List Env} {e : Addr} {Z : Obj → Prop} (R : HandSPX.FlyingZ B l e Z h) (k : ∀ b o, h.get? b = some o → h'.get? b = some o) : HandSPX.FlyingZ B l e Z h' := by
  obtain ⟨f1, f2, f3, oe, vs, T, oT, ts, he, hz, hd, h1, hn, hne, hT, hdT, h3⟩ := R
  exact ⟨fun b o q => k b o (f1 b o q), f2, f3.of_keeps fun b o q _ => ⟨o, k b o q, rfl⟩, oe, vs, T, oT, ts, k _ _ he, hz, hd, h1, hn, hne, k _ _ hT, hdT, h3⟩
section
variable {X : Cx} {body : List Stmt} {h₀ : ExceptHandler} {hds : List ExceptHandler} {l : List (List Value × (Addr → Value → Option Addr → TS))} {pos : Pos} {tb : WX → TS} {Wout : WX}
theorem ps_try_hs (hs : X.stack = X.env :: X.outer) (hf : X.env.frame = some X.env.locals) (tk : Takes X Wout)
    (hb : ∀ (W : WX) (pn : List (Addr × Obj)) (xe : Value → Shared → Prop), Takes (X.tr pn xe) W → PassesOwn (model X.prog X.w) X.A X.env xe → PSs (X.tr pn xe) body (tb W))
    (hh : Hds X (h₀ :: hds) l) : PS X (.Try body (h₀ :: hds) [] [] pos) (fun D σ H => tb (wHs X.K Wout D l) D σ H) := by
  refine ⟨fun pins s σ H D I h => ?_⟩
  have ok := I.ok
  have hfr : X.A.frames = some (X.env :: X.outer) := by rw [ok.frames, hs]
  have run := (hb (wHs X.K Wout D l) (X.pn ++ pins) (fun e s₁ => wpAny (model X.prog X.w) X.A (noteFrame e X.env) (fun _ s₂ => wpAny (model X.prog X.w) X.A (setFlight e none) (fun _ s₃ =>
    wpAny (model X.prog X.w) X.A (handleBy e X.env (h₀ :: hds)) (SP X pins D) X.xe s₃) X.xe s₂) X.xe s₁) (fun u s' xx => ?_) PassesOwn.looking).run [] s σ H D (I.toTry _) h
  · refine wpAny_Try_except (wpAny_mono run (fun f s1 hsp => ?_) (fun e s1 he => he))
    cases f with
    | next =>
      obtain ⟨σ', H', J', q⟩ := hsp
      exact wpAny_execs_nil ⟨σ', H', J'.ofTry ok, q⟩
    | brk =>
      obtain ⟨σ', H', J', q⟩ := hsp
      exact ⟨σ', H', J'.ofTry ok, q⟩
    | cont =>
      obtain ⟨σ', H', J', q⟩ := hsp
      exact ⟨σ', H', J'.ofTry ok, q⟩
    | ret u =>
      obtain ⟨v, σ', H', J', r, q⟩ := hsp
      exact ⟨v, σ', H', J'.ofTry ok, r, q⟩
  · obtain ⟨a, B, sI, pins', σ', H', cls, d, rfl, J', nb, up, sky, na, os, ag, w⟩ := xx
    have J : Inv X pins σ' H' sI := J'.ofTry ok
    have sky' : Sky B (X.env :: X.outer) a (Zc cls d) X.env.locals s'.heap := by rw [← hs]; exact sky
    show wpAny (model X.prog X.w) X.A (noteFrame (.ref a) X.env) _ _ _
    refine Sky.land Zc.steady hfr hf sky' fun h3 fl3 up3 => ?_
    -- a heap over which the exception flies: a state of ours, with the exception beside
    have at_ : ∀ {hh : Heap}, HandSPX.FlyingZ B (X.env :: X.outer) a (Zc cls d) hh → sI.heap.UpToSlots hh → Inv X pins σ' H' { s' with heap := hh } := fun fl up2 => J.landed nb fl.1 up2 os ag
    have air : ∀ {hh : Heap} (fl : HandSPX.FlyingZ B (X.env :: X.outer) a (Zc cls d) hh), sI.heap.UpToSlots hh → ∃ oe, Zc cls d oe ∧ (∃ vs, oe.data = .fields vs) ∧ hh.get? a = some oe ∧ Inv (X.suite a ((a, oe) :: (X.pn ++ pins))) [] σ' H' { s' with heap := hh } := fun {hh} fl up2 => by
      obtain ⟨oe, vs, he, hz, hd⟩ := fl.there
      have nfr : a ∉ frs (X.env :: X.outer) := fun hm => by
        obtain ⟨_, o', e', hnf⟩ := fl.2.2.1.mem hm
        rw [he] at e'
        cases e'
        exact hnf _ hd
      refine ⟨oe, hz, ⟨vs, hd⟩, he, (at_ fl up2).suite he hd na (fun z => nfr (List.mem_filterMap.mpr ⟨X.env, List.mem_cons_self, by rw [hf, z]⟩)) fun hm => ?_⟩
      obtain ⟨e, hm, q⟩ := List.mem_filterMap.mp hm
      exact nfr (List.mem_filterMap.mpr ⟨e, List.mem_cons_of_mem _ hm, q⟩)
    have go : ∀ {hds' : List ExceptHandler} {l' : List (List Value × (Addr → Value → Option Addr → TS))}, Hds X hds' l' → wHs X.K Wout D l' cls d σ' H' → ∀ h3 : Heap, HandSPX.FlyingZ B (X.env :: X.outer) a (Zc cls d) h3 → sI.heap.UpToSlots h3 →
        wpAny (model X.prog X.w) X.A (handleBy (.ref a) X.env hds') (SP X pins D) X.xe { s' with heap := h3 } := by
      intro hds' l' hk
      induction hk with
      | nil =>
        intro w h3 fl3 up3
        refine wpAny_handleBy_nil ?_
        obtain ⟨k1, k2, k3, oe, vs, T, oT, ts', he, hz, hd, h1, hr⟩ := id fl3
        unfold PySem.passOn
        refine wpAny_bind (wpAny_field he hd h1 ?_)
        rw [if_neg (show ¬ ((Value.ref T == Value.none) = true) from by simp)]
        have fin : wpAny (model X.prog X.w) X.A (setFlight (.ref a) X.env.frame) (fun _ s4 => wpAny (model X.prog X.w) X.A (throw (.ref a) : Sem Flow) (SP X pins D) X.xe s4) X.xe { s' with heap := h3 } := by
          rw [hf]
          refine HandSPX.setFlight_upZ fl3 fun h4 hh4 up4 => wpAny_throw (tk _ _ ?_)
          exact ⟨a, B, sI, pins, σ', H', cls, d, rfl, J, nb, up3.trans up4, .inr (.inr (by rw [hs]; exact hh4)), na, os, ag, w⟩
        first
          | exact wpAny_bind (wpAny_pure (wpAny_bind fin))
          | exact wpAny_bind fin
      | @cons t cs ts b₀ suite pos' hds2 l2 hc hsu r ih =>
        intro w h3 fl3 up3
        obtain ⟨b, hb1, hyes, hno⟩ := w
        obtain ⟨oe3, hz3, _, he3, S3⟩ := air fl3 up3
        refine wpAny_handleBy_cons (codeAny_handlers_test ?_) (by intro q; cases q)
        have LT : PySem.W.Looks (model X.prog X.w) h3 (typeOf (.ref a)) cls := fun A Q E s k q => wpAny_typeOf_ref (k _ _ he3) (by rw [hz3.1]; exact q)
        refine hc a oe3 _ _ σ' H' cls b _ _ S3 LT hb1 fun c h5 k5 LM => ?_
        refine LM.here ?_
        have fl5 := fly_keeps fl3 k5
        have up5 : sI.heap.UpToSlots h5 := up3.trans (Heap.UpToSlots.of_keeps k5)
        cases b with
        | true =>
          refine codeAny_handlers_suite ?_
          refine HandSPX.lands_againZ fl5 fun h4 fl4 up4 => ?_
          obtain ⟨oe4, hz4, hd4, he4, S4⟩ := air fl4 (up5.trans up4)
          refine wpAny_mono ((hsu a oe4 cls d (X.pn ++ pins) hz4 hd4).run [] _ _ H' _ S4 (hyes rfl a na)) (fun f s6 hsp => ?_) (fun _ _ z => False.elim z)
          cases f with
          | next =>
            obtain ⟨σ6, H6, S6, q6⟩ := hsp
            exact ⟨_, _, S6.unsuite ok, q6⟩
          | brk =>
            obtain ⟨σ6, H6, S6, q6⟩ := hsp
            exact ⟨_, _, S6.unsuite ok, q6⟩
          | cont =>
            obtain ⟨σ6, H6, S6, q6⟩ := hsp
            exact ⟨_, _, S6.unsuite ok, q6⟩
          | ret u =>
            obtain ⟨v6, σ6, H6, S6, r6, q6⟩ := hsp
            exact ⟨_, _, _, S6.unsuite ok, r6, q6⟩
        | false =>
          show wpAny _ X.A (handleBy (.ref a) X.env hds2) _ _ _
          exact ih (hno rfl) h5 fl5 up5
    exact go hh w h3 fl3 (up.trans up3)
end
end PV
/-! W0: the text by places; things on the heap; vaults on the heap; what the top has written. -/
namespace PV
open PySem PySem.Spec L2

/-! ### the text -/
def top (i : Nat) : Stmt := PySem.Challenge.pw_papervault_k50_shown_where_the_keeper_fa.main.body.getD i (.Pass ⟨0, 0, 0, 0⟩)

/-! ### things on the heap -/
mutual
def Th (H : Hp) : T → V → Prop
  | .non, v => v = .non
  | .int i, v => v = .int i
  | .str s, v => v = .str s
  | .tup l, v => ∃ a xs, v = .ref a ∧ H a = some (.tup xs) ∧ ThA H l xs
def ThA (H : Hp) : List T → List V → Prop
  | [], xs => xs = []
  | t :: l, xs => ∃ y ys, xs = y :: ys ∧ Th H t y ∧ ThA H l ys
end
/-- tuples stay -/
def Tk (H H' : Hp) : Prop := ∀ a xs, H a = some (.tup xs) → H' a = some (.tup xs)
mutual
theorem Th.keep {H H' : Hp} (k : Tk H H') : ∀ {t : T} {v : V}, Th H t v → Th H' t v
  | .non, _, h => h
  | .int _, _, h => h
  | .str _, _, h => h
  | .tup l, _, ⟨a, xs, e, h, q⟩ => ⟨a, xs, e, k a xs h, ThA.keep k q⟩
theorem ThA.keep {H H' : Hp} (k : Tk H H') : ∀ {l : List T} {xs : List V}, ThA H l xs → ThA H' l xs
  | [], _, h => h
  | t :: l, _, ⟨y, ys, e, h, q⟩ => ⟨y, ys, e, Th.keep k h, ThA.keep k q⟩
end
mutual
theorem Th.dp {K : PySem.W.Frag} {H : Hp} : ∀ {t : T} {v : V}, Th H t v → Dp K H v t.py
  | .non, _, h => by cases h; exact .non
  | .int i, _, h => by cases h; exact .int i
  | .str s, _, h => by cases h; exact .str s
  | .tup l, _, ⟨a, xs, e, h, q⟩ => by subst e; exact .tup (SqT.of h) (ThA.dp q)
theorem ThA.dp {K : PySem.W.Frag} {H : Hp} : ∀ {l : List T} {xs : List V}, ThA H l xs → DpAll K H xs (T.pys l)
  | [], _, h => by cases h; exact .nil
  | t :: l, _, ⟨y, ys, e, h, q⟩ => by subst e; exact .cons (Th.dp h) (ThA.dp q)
end
theorem ThA.len {H : Hp} : ∀ {l : List T} {xs : List V}, ThA H l xs → xs.length = l.length
  | [], _, h => by cases h; rfl
  | t :: l, _, ⟨y, ys, e, h, q⟩ => by subst e; rw [List.length_cons, List.length_cons, ThA.len q]
theorem ThA.get {H : Hp} : ∀ {l : List T} {xs : List V} {i : Nat} {x : V}, ThA H l xs → xs[i]? = some x → ∃ t, l[i]? = some t ∧ Th H t x
  | [], _, _, _, h, e => by cases h; simp at e
  | t :: l, _, 0, x, ⟨y, ys, e, h, q⟩, e2 => by subst e; simp at e2; subst e2; exact ⟨t, rfl, h⟩
  | t :: l, _, i + 1, x, ⟨y, ys, e, h, q⟩, e2 => by
    subst e
    obtain ⟨t', a, b⟩ := ThA.get (i := i) (x := x) q (by simpa using e2)
    exact ⟨t', by simpa using a, b⟩
theorem ThA.snoc {H : Hp} {t : T} {x : V} (h : Th H t x) : ∀ {l : List T} {xs : List V}, ThA H l xs → ThA H (l ++ [t]) (xs ++ [x])
  | [], _, e => by cases e; exact ⟨x, [], rfl, h, rfl⟩
  | u :: l, _, ⟨y, ys, e, h', q⟩ => by subst e; exact ⟨y, ys ++ [x], rfl, h', ThA.snoc h q⟩
theorem ThA.take {H : Hp} : ∀ {l : List T} {xs : List V} (n : Nat), ThA H l xs → ThA H (l.take n) (xs.take n)
  | [], _, n, e => by cases e; rw [List.take_nil, List.take_nil]; rfl
  | u :: l, _, 0, ⟨y, ys, e, h', q⟩ => rfl
  | u :: l, _, n + 1, ⟨y, ys, e, h', q⟩ => by subst e; exact ⟨y, ys.take n, rfl, h', ThA.take n q⟩
/-- a key is what it is on any heap -/
theorem Th.key {H H' : Hp} {t : T} {v : V} (k : t.keyB = true) (h : Th H t v) : Th H' t v := by
  cases t with
  | non => cases k
  | int i => exact h
  | str s => exact h
  | tup l => cases k
theorem Th.key_shape {H : Hp} {t : T} {v : V} (k : t.keyB = true) (h : Th H t v) : (∃ i, t = .int i ∧ v = .int i) ∨ ∃ s, t = .str s ∧ v = .str s := by
  cases t with
  | non => cases k
  | int i => exact .inl ⟨i, rfl, h⟩
  | str s => exact .inr ⟨s, rfl, h⟩
  | tup l => cases k

/-! ### what stays -/
def isL : HO → Bool
  | .lst _ => true
  | _ => false
def isD : HO → Bool
  | .dK _ => true
  | _ => false
/-- all but lists stays -/
def NL (H H' : Hp) : Prop := ∀ b o, H b = some o → isL o = false → H' b = some o
/-- all but the dicts at fp stays -/
def Fit (fp : List Addr) (H H' : Hp) : Prop := ∀ b o, H b = some o → (b ∉ fp ∨ isD o = false) → H' b = some o
theorem NL.refl (H : Hp) : NL H H := fun _ _ e _ => e
theorem NL.trans {H H1 H2 : Hp} (a : NL H H1) (b : NL H1 H2) : NL H H2 := fun c o e i => b c o (a c o e i) i
theorem NL.fresh {H : Hp} {p : Addr} {o : HO} (h : H p = none) : NL H (upd H p o) := fun b u e _ => by rw [upd_ne (ne_of_none e h)]; exact e
theorem NL.lst {H : Hp} {p : Addr} {o : HO} {xs : List V} (h : H p = some (.lst xs)) : NL H (upd H p o) := fun b u e i => by
  rw [upd_ne (ne_of e h (by rintro rfl; cases i))]; exact e
theorem NL.same {H H' : Hp} (s : Same H H') : NL H H' := fun b o e _ => s b o e
theorem NL.tk {H H' : Hp} (s : NL H H') : Tk H H' := fun a xs e => s a _ e rfl
theorem Fit.refl (fp : List Addr) (H : Hp) : Fit fp H H := fun _ _ e _ => e
theorem Fit.trans {fp : List Addr} {H H1 H2 : Hp} (a : Fit fp H H1) (b : Fit fp H1 H2) : Fit fp H H2 := fun c o e i => b c o (a c o e i) i
theorem Fit.same {fp : List Addr} {H H' : Hp} (s : Same H H') : Fit fp H H' := fun b o e _ => s b o e
theorem Fit.tk {fp : List Addr} {H H' : Hp} (s : Fit fp H H') : Tk H H' := fun a xs e => s a _ e (.inr rfl)
theorem Fit.lst {fp : List Addr} {H H' : Hp} (s : Fit fp H H') {p : Addr} {xs : List V} (h : H p = some (.lst xs)) : H' p = some (.lst xs) := s p _ h (.inr rfl)
theorem Fit.mono {fp fp' : List Addr} {H H' : Hp} (s : Fit fp H H') (h : ∀ b ∈ fp, b ∈ fp') : Fit fp' H H' := fun b o e i => s b o e (i.imp (fun z y => z (h b y)) id)
theorem Fit.toSame {H H' : Hp} (s : Fit [] H H') : Same H H' := fun b o e => s b o e (.inl (by simp))
theorem Same.tk {H H' : Hp} (s : Same H H') : Tk H H' := fun a xs e => s a _ e
theorem Same.fresh {H : Hp} {p : Addr} {o : HO} (h : H p = none) : Same H (upd H p o) := fun b u e => by rw [upd_ne (ne_of_none e h)]; exact e
/-- a fresh object beside -/
theorem Fit.fresh {fp : List Addr} {H H1 : Hp} (s : Fit fp H H1) {p : Addr} {o : HO} (h : H1 p = none) : Fit fp H (upd H1 p o) := s.trans (.same (Same.fresh h))
/-- a change of what was not there at first -/
theorem Fit.own {fp : List Addr} {H H1 : Hp} (s : Fit fp H H1) {p : Addr} {o : HO} (h : H p = none) : Fit fp H (upd H1 p o) := fun b u e i => by
  rw [upd_ne (ne_of_none e h)]; exact s b u e i
theorem Same.own {H H1 : Hp} (s : Same H H1) {p : Addr} {o : HO} (h : H p = none) : Same H (upd H1 p o) := fun b u e => by
  rw [upd_ne (ne_of_none e h)]; exact s b u e
/-- a dict of fp changed -/
theorem Fit.dict {fp : List Addr} {H H1 : Hp} (s : Fit fp H H1) {d : Addr} {kvs : List (Key × V)} {o : HO} (h : H1 d = some (.dK kvs)) (hd : d ∈ fp) : Fit fp H (upd H1 d o) := fun b u e i => by
  have q := s b u e i
  by_cases c : b = d
  · subst c
    rw [h] at q
    cases q
    rcases i with i | i
    · exact absurd hd i
    · cases i
  · rw [upd_ne c]; exact q
theorem Fit.free {fp : List Addr} {H H1 : Hp} (s : Fit fp H H1) {p : Addr} (h : H1 p = none) (hf : ∀ b ∈ fp, ∃ o, H1 b = some o) : H p = none := by
  cases e : H p with
  | none => rfl
  | some o =>
    by_cases c : p ∈ fp
    · obtain ⟨u, q⟩ := hf p c
      rw [h] at q
      cases q
    · have q := s p o e (.inl c)
      rw [h] at q
      cases q

/-! ### a dict of things by their seals -/
abbrev MV (H : Hp) (kvs : List (Key × V)) (m : M) : Prop := Paired (fun (p : Key × V) (q : Int × T) => p.1 = Sum.inl q.1 ∧ Th H q.2 p.2) kvs m
def DM (H : Hp) (d : Addr) (m : M) : Prop := ∃ kvs, H d = some (.dK kvs) ∧ MV H kvs m
theorem MV.keep {H H' : Hp} (k : Tk H H') {kvs : List (Key × V)} {m : M} (h : MV H kvs m) : MV H' kvs m := Paired.mapP h fun _ _ z => ⟨z.1, z.2.keep k⟩
theorem inl_iff {a b : Int} : (Sum.inl a : Key) = Sum.inl b ↔ a = b := ⟨fun h => Sum.inl.inj h, fun h => by rw [h]⟩
theorem MV.get {H : Hp} {kvs : List (Key × V)} {m : M} (h : MV H kvs m) (n : Int) : (∃ v t, valV kvs (Sum.inl n) = some v ∧ M.get m n = some t ∧ Th H t v) ∨ (valV kvs (Sum.inl n) = none ∧ M.get m n = none) := by
  unfold MV at h
  induction h with
  | nil => exact .inr ⟨rfl, rfl⟩
  | @cons p q ps qs hp t ih =>
    rw [get_cons]
    by_cases e : q.1 = n
    · rw [if_pos e, valV_pos (by rw [hp.1, e])]
      exact .inl ⟨_, _, rfl, rfl, hp.2⟩
    · rw [if_neg e, valV_neg (by rw [hp.1, inl_iff]; exact e)]
      exact ih
theorem MV.put {H : Hp} {kvs : List (Key × V)} {m : M} (h : MV H kvs m) (n : Int) {t : T} {v : V} (ht : Th H t v) : MV H (putK kvs (Sum.inl n) v) (m.put n t) := by
  have e : (kvs.any fun kv => decide (kv.1 = Sum.inl n)) = (m.any fun p => decide (p.1 = n)) := by
    rw [valV_any, any_get]
    rcases h.get n with ⟨v, t, e1, e2, _⟩ | ⟨e1, e2⟩ <;> rw [e1, e2] <;> rfl
  unfold putK M.put
  rw [e]
  split
  · rename_i c0
    unfold MV at h ⊢
    clear e c0
    induction h with
    | nil => exact .nil
    | @cons p q ps qs hp t' ih =>
      rw [List.map_cons, List.map_cons]
      refine .cons ?_ ih
      by_cases c : q.1 = n
      · rw [if_pos c, if_pos (by rw [hp.1, c])]
        exact ⟨hp.1, ht⟩
      · rw [if_neg c, if_neg (by rw [hp.1, inl_iff]; exact c)]
        exact hp
  · exact Paired.snoc h ⟨rfl, ht⟩
theorem MV.keys {H : Hp} {kvs : List (Key × V)} {m : M} (h : MV H kvs m) : kvs.map (·.1) = (m.map (·.1)).map Sum.inl := by
  unfold MV at h
  induction h with
  | nil => rfl
  | cons hp t ih => rw [List.map_cons, List.map_cons, List.map_cons, ih, hp.1]
theorem MV.len {H : Hp} {kvs : List (Key × V)} {m : M} (h : MV H kvs m) : kvs.length = m.length := Paired.length h
theorem DM.keep {H H' : Hp} {d : Addr} {m : M} (h : DM H d m) (k : Tk H H') (e : ∀ o, H d = some o → H' d = some o) : DM H' d m := by
  obtain ⟨kvs, h1, h2⟩ := h
  exact ⟨kvs, e _ h1, h2.keep k⟩
theorem DM.nl {H H' : Hp} {d : Addr} {m : M} (h : DM H d m) (k : NL H H') : DM H' d m := by
  obtain ⟨kvs, h1, h2⟩ := h
  exact ⟨kvs, k _ _ h1 rfl, h2.keep k.tk⟩

/-! ### the addresses -/
structure Ad where
  (cVE cNP cBT cCL cV cK cR cW cPut : Addr)
  (fCLi fTC fCO fSE fIN fIT fIW fITh fKO fSO fAH fVi fVl fVt fVh fKt fRi fRl fRt fRp fWi fAP fCH fCO2 fSH fWH fND fNA fNB fRK fAB fPA fJO fRE fPU fCU fPi fPa : Addr)
  (fLc fLt fLk fLw fLg fLn fLy fL1 fLh fLaw : Addr)

/-! ### vaults on the heap -/
inductive Kd where
  | keeper | witness | reader
namespace Kd
def cls (A : Ad) : Kd → Addr
  | .keeper => A.cK
  | .witness => A.cW
  | .reader => A.cR
def fT (A : Ad) : Kd → Addr
  | .keeper => A.fVt
  | .witness => A.fVt
  | .reader => A.fRt
def fL (A : Ad) : Kd → Addr
  | .keeper => A.fVl
  | .witness => A.fVl
  | .reader => A.fRl
end Kd
def fsP (d : Addr) : List (Str × V) := [("by_seal", .ref d)]
def fsR (d b e : Addr) : List (Str × V) := [("by_seal", .ref d), ("beneath", .ref b), ("noted", .ref e)]
theorem look_cons (f g : Str) (v : V) (fs : List (Str × V)) : List.lookup g ((f, v) :: fs) = if g = f then some v else List.lookup g fs := by
  by_cases h : g = f
  · subst h; simp [List.lookup]
  · have e : (g == f) = false := by simpa using h
    rw [if_neg h]
    simp [List.lookup, e]
theorem lookP {d : Addr} : (fsP d).lookup ("by_seal" : Str) = some (.ref d) := by unfold fsP; rw [look_cons, if_pos rfl]
theorem lookP_no {d : Addr} {g : Str} (h : ¬ g = "by_seal") : (fsP d).lookup g = none := by unfold fsP; rw [look_cons, if_neg h]; rfl
theorem lookR_own {d b e : Addr} : (fsR d b e).lookup ("by_seal" : Str) = some (.ref d) := by unfold fsR; rw [look_cons, if_pos rfl]
theorem lookR_ben {d b e : Addr} : (fsR d b e).lookup ("beneath" : Str) = some (.ref b) := by unfold fsR; rw [look_cons, if_neg (by decide +kernel), look_cons, if_pos rfl]
theorem lookR_not {d b e : Addr} : (fsR d b e).lookup ("noted" : Str) = some (.ref e) := by unfold fsR; rw [look_cons, if_neg (by decide +kernel), look_cons, if_neg (by decide +kernel), look_cons, if_pos rfl]
theorem lookR_no {d b e : Addr} {g : Str} (h1 : ¬ g = "by_seal") (h2 : ¬ g = "beneath") (h3 : ¬ g = "noted") : (fsR d b e).lookup g = none := by
  unfold fsR; rw [look_cons, if_neg h1, look_cons, if_neg h2, look_cons, if_neg h3]; rfl
/-- a vault of the class at C without more, its dict at d -/
def PlainAt (C : Addr) (H : Hp) (a d : Addr) (m : M) : Prop := ∃ dx, H a = some (.ins C dx (fsP d)) ∧ DM H d m
def ReadAt (A : Ad) (H : Hp) (a d e : Addr) (s : VS) : Prop := ∃ dx b bd m, H a = some (.ins A.cR dx (fsR d b e)) ∧ DM H d s.own ∧ DM H e s.noted ∧ s.ben = some m ∧ PlainAt A.cK H b bd m ∧ d ≠ e ∧ bd ≠ d ∧ bd ≠ e
def Vat (A : Ad) : Kd → Hp → Addr → List Addr → VS → Prop
  | .keeper, H, a, fp, s => ∃ d, fp = [d] ∧ s.ben = none ∧ s.noted = [] ∧ PlainAt A.cK H a d s.own
  | .witness, H, a, fp, s => ∃ d, fp = [d] ∧ s.ben = none ∧ s.noted = [] ∧ PlainAt A.cW H a d s.own
  | .reader, H, a, fp, s => ∃ d e, fp = [d, e] ∧ ReadAt A H a d e s
theorem PlainAt.nl {C : Addr} {H H' : Hp} {a d : Addr} {m : M} (h : PlainAt C H a d m) (k : NL H H') : PlainAt C H' a d m := by
  obtain ⟨dx, h1, h2⟩ := h
  exact ⟨dx, k _ _ h1 rfl, h2.nl k⟩
theorem PlainAt.fit {C : Addr} {H H' : Hp} {a d : Addr} {m : M} {fp : List Addr} (h : PlainAt C H a d m) (k : Fit fp H H') (hd : d ∉ fp) : PlainAt C H' a d m := by
  obtain ⟨dx, h1, h2⟩ := h
  exact ⟨dx, k _ _ h1 (.inr rfl), h2.keep k.tk fun o e => k _ _ e (.inl hd)⟩
theorem Vat.nl {A : Ad} {kd : Kd} {H H' : Hp} {a : Addr} {fp : List Addr} {s : VS} (h : Vat A kd H a fp s) (k : NL H H') : Vat A kd H' a fp s := by
  cases kd with
  | keeper => obtain ⟨d, h1, h2, h3, h4⟩ := h; exact ⟨d, h1, h2, h3, h4.nl k⟩
  | witness => obtain ⟨d, h1, h2, h3, h4⟩ := h; exact ⟨d, h1, h2, h3, h4.nl k⟩
  | reader =>
    obtain ⟨d, e, h1, dx, b, bd, m, h2, h3, h4, h5, h6, h7⟩ := h
    exact ⟨d, e, h1, dx, b, bd, m, k _ _ h2 rfl, h3.nl k, h4.nl k, h5, h6.nl k, h7⟩
theorem Vat.same {A : Ad} {kd : Kd} {H H' : Hp} {a : Addr} {fp : List Addr} {s : VS} (h : Vat A kd H a fp s) (k : Same H H') : Vat A kd H' a fp s := h.nl (.same k)
theorem Vat.ins {A : Ad} {kd : Kd} {H : Hp} {a : Addr} {fp : List Addr} {s : VS} (h : Vat A kd H a fp s) : ∃ dx fs, H a = some (.ins (kd.cls A) dx fs) ∧ fs.lookup ("thing" : Str) = none ∧ fs.lookup ("lay" : Str) = none := by
  cases kd with
  | keeper => obtain ⟨d, h1, h2, h3, dx, h4, h5⟩ := h; exact ⟨dx, _, h4, lookP_no (by decide +kernel), lookP_no (by decide +kernel)⟩
  | witness => obtain ⟨d, h1, h2, h3, dx, h4, h5⟩ := h; exact ⟨dx, _, h4, lookP_no (by decide +kernel), lookP_no (by decide +kernel)⟩
  | reader =>
    obtain ⟨d, e, h1, dx, b, bd, m, h2, h3, h4, h5, h6, h7⟩ := h
    exact ⟨dx, _, h2, lookR_no (by decide +kernel) (by decide +kernel) (by decide +kernel), lookR_no (by decide +kernel) (by decide +kernel) (by decide +kernel)⟩
theorem Vat.fps {A : Ad} {kd : Kd} {H : Hp} {a : Addr} {fp : List Addr} {s : VS} (h : Vat A kd H a fp s) : ∀ b ∈ fp, ∃ o, H b = some o := by
  cases kd with
  | keeper =>
    obtain ⟨d, rfl, h2, h3, dx, h4, kvs, h5, _⟩ := h
    intro b hb
    rw [List.mem_singleton.mp hb]
    exact ⟨_, h5⟩
  | witness =>
    obtain ⟨d, rfl, h2, h3, dx, h4, kvs, h5, _⟩ := h
    intro b hb
    rw [List.mem_singleton.mp hb]
    exact ⟨_, h5⟩
  | reader =>
    obtain ⟨d, e, rfl, dx, b, bd, m, h2, ⟨kvs, h3, _⟩, ⟨kvs2, h4, _⟩, _⟩ := h
    intro b hb
    rcases List.mem_cons.mp hb with hb | hb
    · rw [hb]; exact ⟨_, h3⟩
    · rw [List.mem_singleton.mp hb]; exact ⟨_, h4⟩
/-- a clash in the air -/
def ClashAt (A : Ad) (H : Hp) (cls : Value) (d : Option Addr) : Prop := cls = .ref A.cCL ∧ ∃ dd fs v1 v2 t1 t2, d = some dd ∧ H dd = some (.xd fs) ∧ fs.lookup ("one" : Str) = some v1 ∧ fs.lookup ("other" : Str) = some v2 ∧
  Th H t1 v1 ∧ Th H t2 v2 ∧ t1.ok ∧ t2.ok ∧ t1 ≠ t2 ∧ sealOf t1 = sealOf t2
end PV
/-! X0: what the top has written (printed by gen.py). -/
namespace PV
open PySem PySem.Spec L2

/-- a def of the text, its body as it stands, how its arguments bind -/
def Def (K : PySem.W.Frag) (x qual : Str) (st : Stmt) (f : Addr) (ps : List Str) : Prop := ∃ fd, Fun K x qual st f fd ∧ Binds K fd ps []
def Okf (P : Program) (w : World) (K : PySem.W.Frag) (mg : Str → Option Value) (base : Heap) (CX : CXT) (k : Nat) (f : Addr) (ps : List Str) (sp : Sp) : Prop := ∃ fd, FnOk P w K mg base CX k f fd ps sp ∧ Binds K fd ps []
structure Txt (K : PySem.W.Frag) (mg : Str → Option Value) (A : Ad) : Prop where
  b_range : mg "range" = none
  b_len : mg "len" = none
  b_ord : mg "ord" = none
  b_isinstance : mg "isinstance" = none
  b_int : mg "int" = none
  b_str : mg "str" = none
  b_bool : mg "bool" = none
  b_tuple : mg "tuple" = none
  b_zip : mg "zip" = none
  b_reversed : mg "reversed" = none
  b_sorted : mg "sorted" = none
  b_list : mg "list" = none
  c_MOST_SEAL : ∃ t, mg "MOST_SEAL" = some (.int 2305843009213693951 t)
  c_BASE : ∃ t, mg "BASE" = some (.int 1234567890123456789 t)
  c_BEGIN : ∃ t, mg "BEGIN" = some (.int 7 t)
  c_HALF : ∃ t, mg "HALF" = some (.int 1000000000000000 t)
  c_LEAST : ∃ t, mg "LEAST" = some (.int 1000000000000000000000000000000 t)
  c_MOST_NUMBER : ∃ t, mg "MOST_NUMBER" = some (.int 1000000000000000000000000000000 t)
  c_MOST_SIGNS : ∃ t, mg "MOST_SIGNS" = some (.int 60 t)
  c_MOST_THINGS : ∃ t, mg "MOST_THINGS" = some (.int 40 t)
  c_DEEPEST : ∃ t, mg "DEEPEST" = some (.int 5 t)
  c_MOST_NODES : ∃ t, mg "MOST_NODES" = some (.int 300 t)
  c_UNBOUND : ∃ t, mg "UNBOUND" = some (.int 301 t)
  g_text_codes : mg "text_codes" = some (.ref A.fTC)
  d_text_codes : Def K "text_codes" "text_codes" (top 11) A.fTC ["text"]
  g_codes_of : mg "codes_of" = some (.ref A.fCO)
  d_codes_of : Def K "codes_of" "codes_of" (top 12) A.fCO ["thing"]
  g_seal : mg "seal" = some (.ref A.fSE)
  d_seal : Def K "seal" "seal" (top 13) A.fSE ["thing"]
  g_is_number : mg "is_number" = some (.ref A.fIN)
  d_is_number : Def K "is_number" "is_number" (top 19) A.fIN ["thing"]
  g_is_text : mg "is_text" = some (.ref A.fIT)
  d_is_text : Def K "is_text" "is_text" (top 20) A.fIT ["thing"]
  g_is_within : mg "is_within" = some (.ref A.fIW)
  d_is_within : Def K "is_within" "is_within" (top 21) A.fIW ["thing", "deep"]
  g_is_thing : mg "is_thing" = some (.ref A.fITh)
  d_is_thing : Def K "is_thing" "is_thing" (top 22) A.fITh ["thing"]
  g_kind_of : mg "kind_of" = some (.ref A.fKO)
  d_kind_of : Def K "kind_of" "kind_of" (top 23) A.fKO ["thing"]
  g_side_of : mg "side_of" = some (.ref A.fSO)
  d_side_of : Def K "side_of" "side_of" (top 24) A.fSO ["one", "other"]
  g_ahead : mg "ahead" = some (.ref A.fAH)
  d_ahead : Def K "ahead" "ahead" (top 25) A.fAH ["one", "other"]
  g_answer_with_paper : mg "answer_with_paper" = some (.ref A.fAP)
  d_answer_with_paper : Def K "answer_with_paper" "answer_with_paper" (top 32) A.fAP ["keeper", "root", "ask"]
  g_checked : mg "checked" = some (.ref A.fCH)
  d_checked : Def K "checked" "checked" (top 33) A.fCH ["root", "ask", "some"]
  g_clash_of : mg "clash_of" = some (.ref A.fCO2)
  d_clash_of : Def K "clash_of" "clash_of" (top 35) A.fCO2 ["paper", "keeper"]
  g_shown : mg "shown" = some (.ref A.fSH)
  d_shown : Def K "shown" "shown" (top 36) A.fSH ["root", "ask", "paper", "keeper"]
  g_is_whole : mg "is_whole" = some (.ref A.fWH)
  d_is_whole : Def K "is_whole" "is_whole" (top 39) A.fWH ["thing", "least", "most"]
  g_is_node : mg "is_node" = some (.ref A.fND)
  d_is_node : Def K "is_node" "is_node" (top 40) A.fND ["thing"]
  g_node_at : mg "node_at" = some (.ref A.fNA)
  d_node_at : Def K "node_at" "node_at" (top 41) A.fNA ["vault", "root"]
  g_node_beneath : mg "node_beneath" = some (.ref A.fNB)
  d_node_beneath : Def K "node_beneath" "node_beneath" (top 42) A.fNB ["vault", "root", "count"]
  g_rank : mg "rank" = some (.ref A.fRK)
  d_rank : Def K "rank" "rank" (top 43) A.fRK ["key"]
  g_above : mg "above" = some (.ref A.fAB)
  d_above : Def K "above" "above" (top 44) A.fAB ["key", "other"]
  g_part : mg "part" = some (.ref A.fPA)
  d_part : Def K "part" "part" (top 47) A.fPA ["vault", "root", "key"]
  g_joined : mg "joined" = some (.ref A.fJO)
  d_joined : Def K "joined" "joined" (top 48) A.fJO ["vault", "left", "right", "most"]
  g_rebuilt : mg "rebuilt" = some (.ref A.fRE)
  d_rebuilt : Def K "rebuilt" "rebuilt" (top 49) A.fRE ["vault", "way", "key", "root", "more"]
  g_put : mg "put" = some (.ref A.fPU)
  d_put : Def K "put" "put" (top 50) A.fPU ["vault", "root", "key", "worth"]
  g_cut : mg "cut" = some (.ref A.fCU)
  d_cut : Def K "cut" "cut" (top 51) A.fCU ["vault", "root", "key"]
  g_L_cell_at : mg "_law_cell_at" = some (.ref A.fLc)
  d_L_cell_at : Def K "_law_cell_at" "_law_cell_at" (top 56) A.fLc ["script", "k"]
  g_L_turned : mg "_law_turned" = some (.ref A.fLt)
  d_L_turned : Def K "_law_turned" "_law_turned" (top 57) A.fLt ["cell", "many"]
  g_L_key : mg "_law_key" = some (.ref A.fLk)
  d_L_key : Def K "_law_key" "_law_key" (top 58) A.fLk ["number", "twin"]
  g_L_worth : mg "_law_worth" = some (.ref A.fLw)
  d_L_worth : Def K "_law_worth" "_law_worth" (top 59) A.fLw ["number", "twin"]
  g_L_grown : mg "_law_grown" = some (.ref A.fLg)
  d_L_grown : Def K "_law_grown" "_law_grown" (top 62) A.fLg ["keeper", "pairs", "numbers", "twin"]
  g_L_twinned : mg "_law_twinned" = some (.ref A.fLn)
  d_L_twinned : Def K "_law_twinned" "_law_twinned" (top 64) A.fLn ["one"]
  g_L_copy : mg "_law_copy" = some (.ref A.fLy)
  d_L_copy : Def K "_law_copy" "_law_copy" (top 65) A.fLy ["keeper"]
  g_L_one : mg "_law_one" = some (.ref A.fL1)
  d_L_one : Def K "_law_one" "_law_one" (top 66) A.fL1 ["keeper", "root", "cell", "twin"]
  g_L_holds : mg "_law_holds" = some (.ref A.fLh)
  d_L_holds : Def K "_law_holds" "_law_holds" (top 67) A.fLh ["script"]
  g_law : mg "law" = some (.ref A.fLaw)
  d_law : Def K "law" "law" (top 68) A.fLaw ["script"]
  g_VaultError : mg "VaultError" = some (.ref A.cVE)
  g_NoPaper : mg "NoPaper" = some (.ref A.cNP)
  g_BadThing : mg "BadThing" = some (.ref A.cBT)
  g_Clash : mg "Clash" = some (.ref A.cCL)
  g_Vault : mg "Vault" = some (.ref A.cV)
  g_Keeper : mg "Keeper" = some (.ref A.cK)
  g_Reader : mg "Reader" = some (.ref A.cR)
  g_Witness : mg "Witness" = some (.ref A.cW)
  g_Put : mg "Put" = some (.ref A.cPut)
  d_Clash_init : Def K "__init__" "Clash.__init__" (inClass (top 4) 0) A.fCLi ["self", "one", "other"]
  d_Vault_init : Def K "__init__" "Vault.__init__" (inClass (top 27) 0) A.fVi ["self"]
  d_Vault_lay : Def K "lay" "Vault.lay" (inClass (top 27) 1) A.fVl ["self", "new"]
  d_Vault_thing : Def K "thing" "Vault.thing" (inClass (top 27) 2) A.fVt ["self", "number"]
  d_Vault_has : Def K "has" "Vault.has" (inClass (top 27) 3) A.fVh ["self", "number"]
  d_Keeper_things : Def K "things" "Keeper.things" (inClass (top 28) 0) A.fKt ["self"]
  d_Reader_init : Def K "__init__" "Reader.__init__" (inClass (top 29) 0) A.fRi ["self", "keeper"]
  d_Reader_lay : Def K "lay" "Reader.lay" (inClass (top 29) 1) A.fRl ["self", "new"]
  d_Reader_thing : Def K "thing" "Reader.thing" (inClass (top 29) 2) A.fRt ["self", "number"]
  d_Reader_paper : Def K "paper" "Reader.paper" (inClass (top 29) 3) A.fRp ["self"]
  d_Witness_init : Def K "__init__" "Witness.__init__" (inClass (top 30) 0) A.fWi ["self", "some"]
  d_Put_init : Def K "__init__" "Put.__init__" (inClass (top 54) 0) A.fPi ["self", "key", "worth"]
  d_Put_answer : Def K "answer" "Put.answer" (inClass (top 54) 1) A.fPa ["self", "vault", "root"]
  i_cK : Cls K A.cK
  i_cR : Cls K A.cR
  i_cW : Cls K A.cW
  i_cPut : Cls K A.cPut
  n_cK_by_seal : NoAttr K A.cK "by_seal"
  n_cR_by_seal : NoAttr K A.cR "by_seal"
  n_cR_beneath : NoAttr K A.cR "beneath"
  n_cR_noted : NoAttr K A.cR "noted"
  n_cW_by_seal : NoAttr K A.cW "by_seal"
  n_cPut_key : NoAttr K A.cPut "key"
  n_cPut_worth : NoAttr K A.cPut "worth"
  m_cK_lay : Meth K A.cK "lay" A.fVl
  m_cK_thing : Meth K A.cK "thing" A.fVt
  m_cK_has : Meth K A.cK "has" A.fVh
  m_cK_things : Meth K A.cK "things" A.fKt
  m_cW_lay : Meth K A.cW "lay" A.fVl
  m_cW_thing : Meth K A.cW "thing" A.fVt
  m_cW_has : Meth K A.cW "has" A.fVh
  m_cR_lay : Meth K A.cR "lay" A.fRl
  m_cR_thing : Meth K A.cR "thing" A.fRt
  m_cR_has : Meth K A.cR "has" A.fVh
  m_cR_paper : Meth K A.cR "paper" A.fRp
  m_cPut_answer : Meth K A.cPut "answer" A.fPa
  k_cK : Mk K A.cK A.fVi
  k_cR : Mk K A.cR A.fRi
  k_cW : Mk K A.cW A.fWi
  k_cPut : Mk K A.cPut A.fPi
  f_cV_init : CFun K A.cV "__init__" A.fVi
  f_cV_lay : CFun K A.cV "lay" A.fVl
  f_cV_thing : CFun K A.cV "thing" A.fVt
  vi : VInit K A.cVE
  oex : OexC K A.cCL
  xf : XfC K A.cCL
  cl_one : PySem.W.findIn K (.ref A.cCL) "one" = some none
  cl_other : PySem.W.findIn K (.ref A.cCL) "other" = some none
  cl_init : PySem.W.findIn K (.ref A.cCL) "__init__" = some (some (.ref A.fCLi))
  cl_ty : PySem.W.typeIn K (.ref A.fCLi) = some (.type "function")
  np : PySem.W.excIn K A.cNP [.type "ValueError", .type "Exception", .type "BaseException", .type "object"] "ValueError.__new__" = true
  np_k : PySem.W.keepIn K (.ref A.cNP) = true
  np_b : PySem.W.subIn K (.ref A.cNP) (.type "BaseException") = some true
  np_t : PySem.W.typeIn K (.ref A.cNP) = some (.type "type")
  e_np3 : PySem.W.exmAny K (.ref A.cNP) [.ref A.cNP, .ref A.cBT, .ref A.cCL] = some true
  e_npc : PySem.W.exmAny K (.ref A.cNP) [.ref A.cCL] = some false
  e_np2 : PySem.W.exmAny K (.ref A.cNP) [.ref A.cNP, .ref A.cBT] = some true
  e_clc : PySem.W.exmAny K (.ref A.cCL) [.ref A.cCL] = some true
  e_cl1 : PySem.W.exmOne K (.ref A.cCL) (.ref A.cCL) = some true
end PV
/-! R3: the calls' rules by Okf; constants; isinstance of a thing. -/
namespace PV
open PySem PySem.Spec L2
theorem bt_len : bootBuiltins "len" = some (.builtin "len") := by decide +kernel
theorem bt_ord : bootBuiltins "ord" = some (.builtin "ord") := by decide +kernel
theorem bt_isinstance : bootBuiltins "isinstance" = some (.builtin "isinstance") := by decide +kernel
theorem bt_sorted : bootBuiltins "sorted" = some (.builtin "sorted") := by decide +kernel
theorem bt_int : bootBuiltins "int" = some (.type "int") := by decide +kernel
theorem bt_str : bootBuiltins "str" = some (.type "str") := by decide +kernel
theorem bt_bool : bootBuiltins "bool" = some (.type "bool") := by decide +kernel
theorem bt_tuple : bootBuiltins "tuple" = some (.type "tuple") := by decide +kernel
theorem bt_list : bootBuiltins "list" = some (.type "list") := by decide +kernel
theorem length_le_of {s : Str} {n : Nat} (h : s.length ≤ n) (hn : n ≤ 16777216) : s.length ≤ sizeLine := by rw [sizeLine_eq]; omega
theorem bigN : (10 : Nat) ^ 6 ≤ sizeLine := by rw [sizeLine_eq]; decide
theorem big2 : (10 : Nat) ^ 6 < sizeLine := by rw [sizeLine_eq]; decide

theorem Def.kp {K : PySem.W.Frag} {x qual : Str} {st : Stmt} {f : Addr} {ps : List Str} (D : Def K x qual st f ps) : PySem.W.keepIn K (.ref f) = true := by
  obtain ⟨_, F, _⟩ := D
  exact F.kp
section
variable {P : Program} {w : World} {K : PySem.W.Frag} {mg : Str → Option Value} {base : Heap}
theorem Okf.mono {CX : CXT} {j k : Nat} {f : Addr} {ps : List Str} {sp : Sp} (G : Okf P w K mg base CX j f ps sp) (h : j ≤ k) : Okf P w K mg base CX k f ps sp := by
  obtain ⟨fd, F, b⟩ := G
  exact ⟨fd, F.mono h, b⟩
theorem Okf.imp {CX : CXT} {k : Nat} {f : Addr} {ps : List Str} {sp sp' : Sp} (G : Okf P w K mg base CX k f ps sp) (h : ∀ vs H Q E, sp' vs H Q E → sp vs H Q E) : Okf P w K mg base CX k f ps sp' := by
  obtain ⟨fd, F, b⟩ := G
  exact ⟨fd, F.imp h, b⟩
end
/-- no exception out of the callee -/
abbrev E00 : L2.St → XK := fun _ => E0
theorem no0 {X : Cx} (σ : L2.St) : PassesAt CX0 X σ (E00 σ) := pat pass0 σ
theorem noX {X : Cx} (σ : L2.St) : PassesAt (L2.CX X.prog X.w) X σ (E00 σ) := pat passL σ
/-- the callee's exceptions are the caller's own -/
theorem up {X : Cx} {E : XK} (tk : Takes X (fun cls d _ H => E cls d H)) (σ : L2.St) : PassesAt (L2.CX X.prog X.w) X σ ((fun _ => E) σ) := pat (passes_call tk fun _ _ _ _ h => h) σ

section
variable {X : Cx} {CX : CXT} {k k0 : Nat} {f C : Addr} {ps : List Str} {sp : Sp} {E : L2.St → XK} {x m : Str} {p pos apos : Pos} {e o : Expr} {es : List Expr} {ta : TE} {t : TA} {pl : Sem Bool}
theorem pe_cst {n : Int} (hg : Gl X x) (c : ∃ t, X.mg x = some (.int n t)) (hd : (x == ("__debug__" : Str)) = false := by decide) : PE X (.Name x pos) (tC (.int n)) := by
  obtain ⟨t, hm⟩ := c
  exact pe_glob hg hm ⟨t, rfl⟩ hd
theorem pe_callO (G : Okf X.prog X.w X.K X.mg X.base CX k f ps sp) (hr : Room k0 X.A) (hg : Gl X x) (hm : X.mg x = some (.ref f)) (hk : PySem.W.keepIn X.K (.ref f) = true) (hx : ∀ σ, PassesAt CX X σ (E σ)) (ha : PA X (e :: es) t) (hle : k ≤ k0 := by first | decide | omega)
    (hdb : (x == ("__debug__" : Str)) = false := by decide) (he : starEach (e :: es) X.env = (false, eval e X.env) :: starEach es X.env := by rfl) (hpl : (backTo pos (starEach es X.env)).any (·.1) = false := by rfl) :
    PE X (.Call (.Name x p) (e :: es) [] pos) (tCallS sp E t) := by
  obtain ⟨fd, F, b⟩ := G
  exact pe_callS F (hr.mono hle) hg hm hk b hx ha hdb he hpl
theorem pe_methO (he : PE X o ta) (c : Cls X.K C) (hm : Meth X.K C m f) (G : Okf X.prog X.w X.K X.mg X.base CX k f ps sp) (hr : Room k0 X.A) (hx : ∀ σ, PassesAt CX X σ (E σ)) (ha : PA X (e :: es) t) (hle : k ≤ k0 := by first | decide | omega)
    (hst : starEach (e :: es) X.env = (false, eval e X.env) :: starEach es X.env := by rfl) (hpl : (backTo pos (starEach es X.env)).any (·.1) = false := by rfl)
    (ht : eval (.Call (.Attribute o m apos) (e :: es) [] pos) X.env = (do
      let ov ← eval o X.env
      standAt apos.atName
      let (f, first) ← holding [ov] (getMethod ov m pl)
      callWith pos f first (backTo pos (starEach (e :: es) X.env)) (backToKw pos (keywordEach [] X.env))) := by rfl) :
    PE X (.Call (.Attribute o m apos) (e :: es) [] pos) (tMethQ C m sp E ta t) := by
  obtain ⟨fd, F, b⟩ := G
  exact pe_methQ he c hm F (hr.mono hle) b hx ha hst hpl ht
theorem pe_methO0 (he : PE X o ta) (c : Cls X.K C) (hm : Meth X.K C m f) (G : Okf X.prog X.w X.K X.mg X.base CX k f ps sp) (hr : Room k0 X.A) (hx : ∀ σ, PassesAt CX X σ (E σ)) (hle : k ≤ k0 := by first | decide | omega)
    (ht : eval (.Call (.Attribute o m apos) [] [] pos) X.env = (do
      let ov ← eval o X.env
      standAt apos.atName
      let (f, first) ← holding [ov] (getMethod ov m pl)
      callWith pos f first (backTo pos (starEach [] X.env)) (backToKw pos (keywordEach [] X.env))) := by rfl) :
    PE X (.Call (.Attribute o m apos) [] [] pos) (tMethQ C m sp E ta tNil) := by
  obtain ⟨fd, F, b⟩ := G
  exact pe_methQ0 he c hm F (hr.mono hle) b hx ht
theorem pe_cfunO {y : Str} {p2 : Pos} (hg : Gl X y) (hm : X.mg y = some (.ref C)) (c : CFun X.K C m f) (G : Okf X.prog X.w X.K X.mg X.base CX k f ps sp) (hr : Room k0 X.A) (hx : ∀ σ, PassesAt CX X σ (E σ)) (ha : PA X (e :: es) t) (hle : k ≤ k0 := by first | decide | omega)
    (hdb : (y == ("__debug__" : Str)) = false := by decide)
    (hst : starEach (e :: es) X.env = (false, eval e X.env) :: starEach es X.env := by rfl) (hpl : (backTo pos (starEach es X.env)).any (·.1) = false := by rfl)
    (ht : eval (.Call (.Attribute (.Name y p2) m apos) (e :: es) [] pos) X.env = (do
      let ov ← eval (.Name y p2) X.env
      standAt apos.atName
      let (f, first) ← holding [ov] (getMethod ov m pl)
      callWith pos f first (backTo pos (starEach (e :: es) X.env)) (backToKw pos (keywordEach [] X.env))) := by rfl) :
    PE X (.Call (.Attribute (.Name y p2) m apos) (e :: es) [] pos) (tCallS sp E t) := by
  obtain ⟨fd, F, b⟩ := G
  exact pe_cfun hg hm c F (hr.mono hle) b hx ha hdb hst hpl ht
/-- C(e, ..), C's __init__ lets nothing out -/
theorem pe_makeO (M : Mk X.K C f) (G : Okf X.prog X.w X.K X.mg X.base CX k f ps sp) (hr : Room k0 X.A) (hg : Gl X x) (hm : X.mg x = some (.ref C)) (hx : Passes CX X E0) (ha : PA X (e :: es) t) (hle : k + 1 ≤ k0 := by first | decide | omega)
    (hdb : (x == ("__debug__" : Str)) = false := by decide) (he : starEach (e :: es) X.env = (false, eval e X.env) :: starEach es X.env := by rfl) (hpl : (backTo pos (starEach es X.env)).any (·.1) = false := by rfl) :
    PE X (.Call (.Name x p) (e :: es) [] pos) (tMake C sp [] E0 t) := by
  obtain ⟨fd, F, b⟩ := G
  exact pe_make M F (hr.mono hle) hg hm b .nil hx ha hdb he hpl
theorem pe_makeO0 (M : Mk X.K C f) (G : Okf X.prog X.w X.K X.mg X.base CX k f ps sp) (hr : Room k0 X.A) (hg : Gl X x) (hm : X.mg x = some (.ref C)) (hx : Passes CX X E0) (hle : k + 1 ≤ k0 := by first | decide | omega)
    (hdb : (x == ("__debug__" : Str)) = false := by decide) : PE X (.Call (.Name x p) [] [] pos) (tMake C sp [] E0 tNil) := by
  obtain ⟨fd, F, b⟩ := G
  exact pe_make0 M F (hr.mono hle) hg hm b .nil hx hdb
end

/-! ### isinstance of a thing -/
def kindT : T → String
  | .non => "NoneType"
  | .int _ => "int"
  | .str _ => "str"
  | .tup _ => "tuple"
theorem Th.ty {K : PySem.W.Frag} {H : Hp} {t : T} {v : V} (h : Th H t v) : TyX K H v (.type (kindT t)) := by
  cases t with
  | non => cases h; exact .base .non
  | int i => cases h; exact .base (.int i)
  | str s => cases h; exact .base (.str s)
  | tup l => obtain ⟨a, xs, rfl, e, _⟩ := h; exact .base (.tup e)
theorem isi_th {K : PySem.W.Frag} {H : Hp} {t : T} {v : V} {n : String} {b : Bool} {Q : VK} (h : Th H t v) (e : kitB (kindT t) n = some b) (q : Q (.bl b) H) : rIsi K [v, .ty n] H Q := ⟨v, .ty n, _, _, b, rfl, .ty n, h.ty, kit_ty e, q⟩
theorem kNi : kitB "NoneType" "int" = some false := by decide +kernel
theorem kNs : kitB "NoneType" "str" = some false := by decide +kernel
theorem kNt : kitB "NoneType" "tuple" = some false := by decide +kernel
theorem kii : kitB "int" "int" = some true := by decide +kernel
theorem kis : kitB "int" "str" = some false := by decide +kernel
theorem kiT : kitB "int" "tuple" = some false := by decide +kernel
theorem kib : kitB "int" "bool" = some false := by decide +kernel
theorem ksi : kitB "str" "int" = some false := by decide +kernel
theorem kss : kitB "str" "str" = some true := by decide +kernel
theorem ksT : kitB "str" "tuple" = some false := by decide +kernel
theorem kTi : kitB "tuple" "int" = some false := by decide +kernel
theorem kTs : kitB "tuple" "str" = some false := by decide +kernel
theorem kTT : kitB "tuple" "tuple" = some true := by decide +kernel
/-- isinstance(e, n), n a built-in class -/
theorem pe_isi {X : Cx} {y : Str} {n : String} {e : Expr} {te : TE} {p p2 pos : Pos} (hg : Gl X "isinstance") (hm : X.mg "isinstance" = none) (hg2 : Gl X y) (hm2 : X.mg y = none) (hb : bootBuiltins y = some (.type n)) (he : PE X e te)
    (hn : y ≠ "__name__" := by decide) (hd : (y == ("__debug__" : Str)) = false := by decide)
    (na : starEach [e, .Name y p2] X.env = (false, eval e X.env) :: starEach [.Name y p2] X.env := by rfl) (nb : starEach [.Name y p2] X.env = (false, eval (.Name y p2) X.env) :: starEach [] X.env := by rfl) (hpl : (backTo pos (starEach [.Name y p2] X.env)).any (·.1) = false := by rfl) :
    PE X (.Call (.Name "isinstance" p) [e, .Name y p2] [] pos) (tCB (rIsi X.K) (tCons te (tCons (tC (.ty n)) tNil))) :=
  pe_callB call_isi hg hm bt_isinstance (pa_cons he (pa_cons (pe_bltn (v := .ty n) hg2 hm2 hb rfl hn hd) pa_nil nb) na) (by decide) (by decide) na hpl
end PV
/-! W1: text_codes, codes_of, seal. -/
namespace PV
open PySem PySem.Spec L2
section
variable {P : Program} {w : World} {K : PySem.W.Frag} {mg : Str → Option Value} {base : Heap} {A : Ad}

/-! ### text_codes -/
def spTC : Sp := fun vs H Q _ => ∃ z : Str, vs = [.str z] ∧ z.length ≤ 10000 ∧ ∀ H' p, Same H H' → H p = none → H' p = some (.lst ((tcodes z).map V.int)) → Q (.ref p) H'
theorem sc_text_codes : FnScope ["text", "found", "at", "code", "sign"] ["text"] (defScope (top 11)) := ⟨rfl, rfl, rfl, by decide +kernel, rfl, by decide +kernel, by decide +kernel⟩
theorem size7 (n : Nat) : Builtin.Range.rangeSize 0 (n : Int) 7 = (((n + 6) / 7 : Nat) : Int) := by
  unfold Builtin.Range.rangeSize
  rw [if_pos (by decide)]
  split <;> omega
theorem and_t {a b : Bool} (h1 : a = true) (h2 : b = true) : (a && b) = true := by rw [h1, h2]; rfl
theorem rgc7 (n : Nat) (h : n ≤ 10000) : RgC 0 (n : Int) 7 ((n + 6) / 7) := by
  refine ⟨by decide, by decide, ?_, size7 n⟩
  unfold Builtin.Range.small
  rw [size7]
  unfold Builtin.Range.rangeFitsLong
  rw [if_pos (by decide)]
  exact and_t (and_t (and_t (and_t (and_t (decide_eq_true (by decide)) (decide_eq_true (by decide))) (and_t (decide_eq_true (by omega)) (decide_eq_true (by omega)))) (and_t (decide_eq_true (by decide)) (decide_eq_true (by decide))))
    (and_t (decide_eq_true (by omega)) (decide_eq_true (by omega)))) (by rw [decide_eq_true (show -2 ^ 63 ≤ (n : Int) + (7 - 1) by omega), decide_eq_true (show (n : Int) + (7 - 1) < 2 ^ 63 by omega)]; exact Bool.or_true _)
theorem chunk_step {l : List Nat} {j c : Nat} (h : l[j]? = some c) : chunk (l.take (j + 1)) = 128 * chunk (l.take j) + (c : Int) := by
  unfold chunk
  rw [List.take_add_one, h, Option.toList_some, List.foldl_append]
  rfl
theorem ok_text_codes (T : Txt K mg A) : Okf P w K mg base CX0 1 A.fTC ["text"] spTC := by
  obtain ⟨fd, F, b⟩ := T.d_text_codes
  refine ⟨fd, F.ok sc_text_codes (fun vs H Q E h => ?_) (fun cdv Ar outer s H vs Q E hr h => ?_), b⟩
  · obtain ⟨z, rfl, _⟩ := h; rfl
  · obtain ⟨z, rfl, hz, k⟩ := h
    refine ⟨_, pss_cons (ps_set (i := 1) sc_text_codes.nd rfl (.inl rfl) (pe_lst pa_nil))
      (pss_cons (ps_for PassesOwn.never rfl (pi_range3 (by rfl) T.b_range (pa_cons pe_int (pa_cons (pe_callB call_len (by rfl) T.b_len bt_len (pa_cons (pv 0) pa_nil)) (pa_cons pe_int pa_nil)))) (pg_name (i := 2) sc_text_codes.nd rfl (.inl rfl))
        (pss_cons (ps_set (i := 3) sc_text_codes.nd rfl (.inl rfl) pe_int)
        (pss_cons (ps_for PassesOwn.never rfl (pi_str (pe_slice sl_str (pv 0) (po_some (pv 2)) (po_some (pe_op op_add (pv 2) pe_int)))) (pg_name (i := 4) sc_text_codes.nd rfl (.inl rfl))
          (pss_one (ps_set (i := 3) sc_text_codes.nd rfl (.inl rfl) (pe_op op_add (pe_op op_mul pe_int (pv 3)) (pe_callB call_ord (by rfl) T.b_ord bt_ord (pa_cons (pv 4) pa_nil))))))
        (pss_one (ps_expr (pe_bm PySem.F.plainAttrs_list PySem.F.slot_list_append PySem.F.type_list_append mt_append (pv 1) (pa_cons (pv 3) pa_nil)))))))
      (pss_one (ps_ret (pv 1)))), ?_⟩
    refine ⟨Nat.zero_le _, fun l hl => ?_⟩
    have hzl : z.length ≤ sizeLine := length_le_of hz (by decide)
    refine ⟨_, rfl, _, z.length, rfl, ⟨hzl, rfl⟩, 0, (z.length : Int), 7, (z.length + 6) / 7, rfl, rgc7 _ hz,
      for_rangeC (lo := 0) (c := 7) (n := (z.length + 6) / 7) (fun i σ H' => ∃ a c d, σ = [some (.str z), some (.ref l), a, c, d] ∧ Same H H' ∧ H' l = some (.lst (((List.range i).map (tcode z)).map V.int)))
        ⟨none, none, none, rfl, Same.fresh hl, upd_same⟩ ?_ ?_⟩
    · rintro i σ H' hi ⟨a, c, d, rfl, sm, hL⟩
      -- code = 0; for sign in text[at:at + 7]
      refine ⟨_, rfl, _, rfl, _, rfl, _, rfl, _, _, rfl, rfl, _, rfl, z, rfl, hzl, cutS z (some (0 + (i : Nat) * 7)) (some (0 + (i : Nat) * 7 + 7)), rfl, ?_⟩
      refine for_it walk_str (fun j σ H2 => ∃ d, σ = [some (.str z), some (.ref l), some (.int (0 + (i : Nat) * 7)), some (.int (chunk ((cutS z (some (0 + (i : Nat) * 7)) (some (0 + (i : Nat) * 7 + 7))).cps.toList.take j))), d] ∧ H2 = H')
        ⟨d, rfl, rfl⟩ (fun _ _ _ _ _ => trivial) ?_ ?_
      · rintro j x σ H2 H3 hj ⟨d, rfl, rfl⟩ ⟨rfl, c, hc, rfl⟩
        have hlen : (cutS z (some (0 + (i : Nat) * 7)) (some (0 + (i : Nat) * 7 + 7))).cps.toList[j]? = some c := by rw [Array.getElem?_toList]; exact hc
        have step := chunk_step hlen
        refine ⟨_, rfl, _, _, rfl, rfl, .inl ⟨by decide, by decide⟩, _, rfl, _, rfl, rfl, _, _, rfl, rfl, ?_⟩
        refine ⟨some (.str ⟨#[c]⟩), ?_, rfl⟩
        rw [step]
        rfl
      · rintro σ H2 ⟨d, rfl, rfl⟩
        refine ⟨_, rfl, .inl ⟨rfl, _, SqL.of hL⟩, _, rfl, l, _, _, rfl, rfl, hL, ?_, ?_⟩
        · rw [List.length_map, List.length_map, List.length_range]
          exact Nat.lt_of_lt_of_le (show i < 10000 by omega) (by decide)
        · refine ⟨_, _, _, rfl, Same.own sm hl, ?_⟩
          rw [upd_same, List.range_succ, List.map_append, List.map_append]
          congr 4
          rw [← Array.length_toList, List.take_length]
          rfl
    · rintro σ H' ⟨a, c, d, rfl, sm, hL⟩
      exact ⟨_, rfl, k H' l sm hl hL⟩
end
end PV
/-! W1b: codes_of, seal. -/
namespace PV
open PySem PySem.Spec L2

section
variable {P : Program} {w : World} {K : PySem.W.Frag} {mg : Str → Option Value} {base : Heap} {A : Ad}

theorem pow42 (d : Nat) : 1 ≤ 42 ^ d := Nat.one_le_pow d 42 (by decide)
mutual
theorem codes_len_le : ∀ (t : T) (d : Nat), t.within d = true → t.codes.length ≤ 100 * 42 ^ d
  | .non, d, _ => by have p := pow42 d; show 1 ≤ _; omega
  | .int i, d, _ => by have p := pow42 d; show 3 ≤ _; omega
  | .str s, d, h => by
    have p := pow42 d
    simp only [T.within, okS, Bool.and_eq_true, decide_eq_true_eq] at h
    have e : (T.codes (.str s)).length = (s.length + 6) / 7 + 2 := by
      rw [T.codes]
      simp [tcodes]
    rw [e]
    omega
  | .tup l, 0, h => by simp [T.within] at h
  | .tup l, d + 1, h => by
    simp only [T.within, Bool.and_eq_true, decide_eq_true_eq, Nat.add_sub_cancel] at h
    have q := codess_len_le l d h.2
    have e : (T.codes (.tup l)).length = (T.codess l).length + 2 := by rw [T.codes]; simp
    have b : l.length * (100 * 42 ^ d) ≤ 40 * (100 * 42 ^ d) := Nat.mul_le_mul_right _ h.1.2
    have p := pow42 d
    rw [e, Nat.pow_succ]
    omega
theorem codess_len_le : ∀ (m : List T) (d : Nat), T.withins m d = true → (T.codess m).length ≤ m.length * (100 * 42 ^ d)
  | [], _, _ => Nat.zero_le _
  | t :: m, d, q => by
    simp only [T.withins, Bool.and_eq_true] at q
    have a := codes_len_le t d q.1
    have b := codess_len_le m d q.2
    rw [T.codess, List.length_append, List.length_cons, Nat.add_mul, Nat.one_mul]
    omega
end
theorem codess_take {l : List T} {i : Nat} {t : T} (h : l[i]? = some t) : T.codess (l.take (i + 1)) = T.codess (l.take i) ++ t.codes := by
  rw [List.take_add_one, h, Option.toList_some]
  have key : ∀ (m : List T) (u : T), T.codess (m ++ [u]) = T.codess m ++ u.codes := by
    intro m u
    induction m with
    | nil => show u.codes ++ [] = [] ++ u.codes; simp
    | cons y m ih => rw [List.cons_append, T.codess, T.codess, ih, List.append_assoc]
  exact key _ _
theorem codess_take_len {l : List T} {d i : Nat} (h : T.withins l d = true) (hl : l.length ≤ 40) : (T.codess (l.take i)).length ≤ 40 * (100 * 42 ^ d) := by
  have q := codess_len_le (l.take i) d (withins_of fun t ht => withins_mem h t (List.mem_of_mem_take ht))
  have e : (l.take i).length ≤ 40 := by rw [List.length_take]; omega
  exact Nat.le_trans q (Nat.mul_le_mul_right _ e)

/-! ### codes_of -/
def spCO (d : Nat) : Sp := fun vs H Q _ => ∃ v t, vs = [v] ∧ Th H t v ∧ t.within d = true ∧ ∀ H' p, Same H H' → H p = none → H' p = some (.lst (t.codes.map V.int)) → Q (.ref p) H'
theorem sc_codes_of : FnScope ["thing", "found", "part"] ["thing"] (defScope (top 12)) := ⟨rfl, rfl, rfl, by decide +kernel, rfl, by decide +kernel, by decide +kernel⟩
theorem co_cases {K : PySem.W.Frag} {H : Hp} {t : T} {v : V} {d : Nat} (h : Th H t v) (hd : t.within d = true) :
    (t = .non ∧ v = .non) ∨ (∃ i, t = .int i ∧ v = .int i ∧ -MOSTN ≤ i ∧ i ≤ MOSTN) ∨ (∃ s, t = .str s ∧ v = .str s ∧ s.length ≤ 60) ∨ ∃ l a xs, t = .tup l ∧ v = .ref a ∧ H a = some (.tup xs) ∧ ThA H l xs ∧ 0 < d ∧ l.length ≤ 40 ∧ T.withins l (d - 1) = true := by
  cases t with
  | non => exact .inl ⟨rfl, h⟩
  | int i =>
    simp only [T.within, Bool.and_eq_true, decide_eq_true_eq] at hd
    exact .inr (.inl ⟨i, rfl, h, hd.1, hd.2⟩)
  | str s =>
    simp only [T.within, okS, Bool.and_eq_true, decide_eq_true_eq] at hd
    exact .inr (.inr (.inl ⟨s, rfl, h, hd.1⟩))
  | tup l =>
    obtain ⟨a, xs, e, ha, hx⟩ := h
    simp only [T.within, Bool.and_eq_true, decide_eq_true_eq] at hd
    exact .inr (.inr (.inr ⟨l, a, xs, rfl, e, ha, hx, hd.1.1, hd.1.2, hd.2⟩))
theorem ok_codes_of (T : Txt K mg A) : ∀ d : Nat, d ≤ 2 → Okf P w K mg base CX0 (d + 2) A.fCO ["thing"] (spCO d) := by
  intro d
  induction d using Nat.strongRecOn with
  | ind d ih =>
  intro hd2
  obtain ⟨fd, F, b⟩ := T.d_codes_of
  refine ⟨fd, F.ok sc_codes_of (fun vs H Q E h => ?_) (fun cdv Ar outer s H vs Q E hr h => ?_), b⟩
  · obtain ⟨z, t, rfl, _⟩ := h; rfl
  · obtain ⟨v, t, rfl, ht, hd, k⟩ := h
    rcases co_cases (K := K) ht hd with ⟨rfl, rfl⟩ | ⟨i, rfl, rfl, h1, h2⟩ | ⟨z, rfl, rfl, hz⟩ | ⟨l, a, xs, rfl, rfl, ha, hx, h0, hl40, hw⟩
    · refine ⟨_, pss_cons (ps_if (pt_cmp (pc_isN (pv 0))) (pss_one (ps_ret (pe_lst (pa_cons pe_int pa_nil)))) pss_nil) pss_never, ?_⟩
      refine ⟨_, rfl, _, rfl, iteT ⟨by show 1 ≤ sizeLine; decide, fun p hp => ?_⟩⟩
      exact k _ p (Same.fresh hp) hp upd_same
    · refine ⟨_, pss_cons (ps_if (pt_cmp (pc_isN (pv 0))) pss_never pss_nil)
        (pss_cons (ps_if (pt_val (pe_isi (by rfl) T.b_isinstance (by rfl) T.b_int bt_int (pv 0)))
          (pss_one (ps_ret (pe_lst (pa_cons pe_int (pa_cons (pe_op op_fdivW (pe_op op_add (pv 0) (pe_cst (by rfl) T.c_LEAST)) (pe_cst (by rfl) T.c_HALF)) (pa_cons (pe_op op_mod (pe_op op_add (pv 0) (pe_cst (by rfl) T.c_LEAST)) (pe_cst (by rfl) T.c_HALF)) pa_nil)))))) pss_nil)
        pss_never), ?_⟩
      refine ⟨_, rfl, _, rfl, iteF ⟨_, rfl, _, _, _, _, _, rfl, .ty _, ht.ty, kit_ty kii, _, rfl, iteT ?_⟩⟩
      refine ⟨_, rfl, _, _, rfl, rfl, _, _, rfl, rfl, wide_div (b := 60) (by decide) (by decide) (by decide) (by decide), _, rfl, _, _, rfl, rfl, _, _, rfl, rfl, (by show (0 : Int) < 1000000000000000; decide), by show 3 ≤ sizeLine; decide, fun p hp => ?_⟩
      exact k _ p (Same.fresh hp) hp upd_same
    · refine ⟨_, pss_cons (ps_if (pt_cmp (pc_isN (pv 0))) pss_never pss_nil)
        (pss_cons (ps_if (pt_val (pe_isi (by rfl) T.b_isinstance (by rfl) T.b_int bt_int (pv 0))) pss_never pss_nil)
        (pss_cons (ps_if (pt_val (pe_isi (by rfl) T.b_isinstance (by rfl) T.b_str bt_str (pv 0)))
          (pss_one (ps_ret (pe_op op_cat (pe_lst (pa_cons pe_int (pa_cons (pe_callB call_len (by rfl) T.b_len bt_len (pa_cons (pv 0) pa_nil)) pa_nil))) (pe_callO (ok_text_codes T) hr (by rfl) T.g_text_codes T.d_text_codes.kp no0 (pa_cons (pv 0) pa_nil))))) pss_nil)
        pss_never)), ?_⟩
      refine ⟨_, rfl, _, rfl, iteF ⟨_, rfl, _, _, _, _, _, rfl, .ty _, ht.ty, kit_ty ksi, _, rfl, iteF ⟨_, rfl, _, _, _, _, _, rfl, .ty _, ht.ty, kit_ty kss, _, rfl, iteT ?_⟩⟩⟩
      have hzl : z.length ≤ sizeLine := length_le_of hz (by decide)
      refine ⟨_, rfl, _, z.length, rfl, ⟨hzl, rfl⟩, by show 2 ≤ sizeLine; decide, fun p hp => ?_⟩
      refine ⟨_, rfl, z, rfl, by omega, fun H1 q sm hq h1 => ?_⟩
      have hqH : H q = none := Same.free (Same.fresh hp) hq
      refine ⟨p, q, _, _, rfl, rfl, sm _ _ upd_same, h1, ?_, fun r hr' => ?_⟩
      · refine Nat.le_trans ?_ bigN
        simp [tcodes]
        omega
      · have s1 : Same H H1 := Same.trans (Same.fresh hp) sm
        exact k _ r (Same.own s1 (s1.free hr')) (s1.free hr') upd_same
    · obtain ⟨d, rfl⟩ : ∃ d', d = d' + 1 := ⟨d - 1, by omega⟩
      rw [Nat.add_sub_cancel] at hw
      have G := ih d (by omega) (by omega)
      refine ⟨_, pss_cons (ps_if (pt_cmp (pc_isN (pv 0))) pss_never pss_nil)
        (pss_cons (ps_if (pt_val (pe_isi (by rfl) T.b_isinstance (by rfl) T.b_int bt_int (pv 0))) pss_never pss_nil)
        (pss_cons (ps_if (pt_val (pe_isi (by rfl) T.b_isinstance (by rfl) T.b_str bt_str (pv 0))) pss_never pss_nil)
        (pss_cons (ps_set (i := 1) sc_codes_of.nd rfl (.inl rfl) (pe_lst (pa_cons pe_int (pa_cons (pe_callB call_len (by rfl) T.b_len bt_len (pa_cons (pv 0) pa_nil)) pa_nil))))
        (pss_cons (ps_for PassesOwn.never rfl (pi_tup (pv 0)) (pg_name (i := 2) sc_codes_of.nd rfl (.inl rfl))
          (pss_one (ps_expr (pe_bm PySem.F.plainAttrs_list PySem.F.slot_list_extend PySem.F.type_list_extend mt_extend (pv 1) (pa_cons (pe_callO G hr (by rfl) T.g_codes_of T.d_codes_of.kp no0 (pa_cons (pv 2) pa_nil)) pa_nil)))))
        (pss_one (ps_ret (pv 1))))))), ?_⟩
      refine ⟨_, rfl, _, rfl, iteF ⟨_, rfl, _, _, _, _, _, rfl, .ty _, ht.ty, kit_ty kTi, _, rfl, iteF ⟨_, rfl, _, _, _, _, _, rfl, .ty _, ht.ty, kit_ty kTs, _, rfl, iteF ?_⟩⟩⟩
      refine ⟨_, rfl, _, xs.length, rfl, .inr ⟨xs, SqT.of ha, rfl⟩, by show 2 ≤ sizeLine; decide, fun p hp => ?_⟩
      have s0 : Same H (upd H p (.lst [.int 4, .int xs.length])) := Same.fresh hp
      refine ⟨_, rfl, a, rfl, ⟨xs, SqT.of (s0 _ _ ha)⟩, for_tup (K := K) (a := a) (xs := xs) (fun i σ H' => ∃ c, σ = [some (.ref a), some (.ref p), c] ∧ Same H H' ∧ H' p = some (.lst ((4 :: (l.length : Int) :: PV.T.codess (l.take i)).map V.int)))
        ⟨none, rfl, s0, by rw [← hx.len]; exact upd_same⟩ (fun i σ H' _ ⟨_, _, sm, _⟩ => SqT.of (sm _ _ ha)) ?_ ?_⟩
      · rintro i x σ H' hi ⟨c, rfl, sm, hL⟩
        obtain ⟨t, hti, htx⟩ := hx.get hi
        refine ⟨_, rfl, .inl ⟨rfl, _, SqL.of hL⟩, _, rfl, x, t, rfl, htx.keep (Same.tk sm), withins_mem hw t (List.mem_of_getElem? hti), fun H2 q s2 hq h2 => ?_⟩
        have hpq : p ≠ q := ne_of_none hL hq
        refine ⟨p, q, _, _, rfl, rfl, s2 _ _ hL, h2, ?_, ?_⟩
        · have c1 := codess_take_len (i := i) hw hl40
          have c2 := codes_len_le t d (withins_mem hw t (List.mem_of_getElem? hti))
          have p3 : 42 ^ d ≤ 42 ^ 1 := Nat.pow_le_pow_right (by decide) (by omega)
          refine Nat.le_trans ?_ bigN
          rw [List.length_map, List.length_map, List.length_cons, List.length_cons]
          omega
        · refine ⟨_, rfl, Same.own (Same.trans sm s2) hp, ?_⟩
          rw [upd_same, codess_take hti]
          simp
      · rintro σ H' ⟨c, rfl, sm, hL⟩
        refine ⟨_, rfl, k H' p sm hp ?_⟩
        rw [hL, hx.len, List.take_length]
        rfl

/-! ### seal -/
def spSE : Sp := fun vs H Q _ => ∃ v t, vs = [v] ∧ Th H t v ∧ t.ok ∧ ∀ H', Same H H' → Q (.int (sealOf t)) H'
theorem sc_seal : FnScope ["thing", "last", "code"] ["thing"] (defScope (top 13)) := ⟨rfl, rfl, rfl, by decide +kernel, rfl, by decide +kernel, by decide +kernel⟩
theorem stepC_take {l : List Int} {i : Nat} {c h : Int} (e : l[i]? = some c) : (l.take (i + 1)).foldl stepC h = stepC ((l.take i).foldl stepC h) c := by
  rw [List.take_add_one, e, Option.toList_some, List.foldl_append]
  rfl
theorem ok_seal (T : Txt K mg A) : Okf P w K mg base CX0 5 A.fSE ["thing"] spSE := by
  obtain ⟨fd, F, b⟩ := T.d_seal
  refine ⟨fd, F.ok sc_seal (fun vs H Q E h => ?_) (fun cdv Ar outer s H vs Q E hr h => ?_), b⟩
  · obtain ⟨z, t, rfl, _⟩ := h; rfl
  · obtain ⟨v, t, rfl, ht, hd, k⟩ := h
    refine ⟨_, pss_cons (ps_set (i := 1) sc_seal.nd rfl (.inl rfl) (pe_cst (by rfl) T.c_BEGIN))
      (pss_cons (ps_for PassesOwn.never rfl (pi_list (pe_callO (ok_codes_of T 2 (by decide)) hr (by rfl) T.g_codes_of T.d_codes_of.kp no0 (pa_cons (pv 0) pa_nil))) (pg_name (i := 2) sc_seal.nd rfl (.inl rfl))
        (pss_one (ps_set (i := 1) sc_seal.nd rfl (.inl rfl) (pe_op op_mod (pe_op op_add (pe_op op_mul (pv 1) (pe_cst (by rfl) T.c_BASE)) (pv 2)) (pe_cst (by rfl) T.c_MOST_SEAL)))))
      (pss_one (ps_ret (pe_op op_add (pv 1) pe_int)))), ?_⟩
    refine ⟨_, rfl, v, t, rfl, ht, hd, fun H1 p sm hp h1 => ?_⟩
    refine ⟨p, rfl, ⟨_, SqL.of h1⟩, for_list (K := K) (a := p) (xs := t.codes.map V.int) (fun i σ H' => ∃ c, σ = [some v, some (.int ((t.codes.take i).foldl stepC 7)), c] ∧ Same H1 H')
      ⟨none, rfl, Same.refl _⟩ (fun i σ H' _ ⟨_, _, s2⟩ => SqL.of (s2 _ _ h1)) ?_ ?_⟩
    · rintro i x σ H' hi ⟨c, rfl, s2⟩
      rw [List.getElem?_map] at hi
      obtain ⟨n, hn, rfl⟩ := Option.map_eq_some_iff.mp hi
      have b1 := fold_in (t.codes.take i) 7 (by decide) (by decide)
      have b2 : MODS = 2305843009213693951 := rfl
      refine ⟨_, rfl, _, _, rfl, rfl, .inl ⟨by omega, by omega⟩, _, rfl, _, _, rfl, rfl, _, _, rfl, rfl, (by show (0 : Int) < 2305843009213693951; decide), ?_⟩
      refine ⟨some (.int n), ?_, s2⟩
      rw [stepC_take hn]
      rfl
    · rintro σ H' ⟨c, rfl, s2⟩
      rw [List.length_map, List.take_length]
      exact ⟨_, rfl, _, _, rfl, rfl, k H' (Same.trans sm s2)⟩
end
end PV
/-! W2: is_number, is_text, is_within, is_thing, kind_of, side_of, ahead. -/
namespace PV
open PySem PySem.Spec L2
section
variable {P : Program} {w : World} {K : PySem.W.Frag} {mg : Str → Option Value} {base : Heap} {A : Ad}

/-! ### is_number, is_text -/
def isIntB : T → Bool
  | .int _ => true
  | _ => false
def isStrB : T → Bool
  | .str _ => true
  | _ => false
def spIN : Sp := fun vs H Q _ => ∃ v t, vs = [v] ∧ Th H t v ∧ t.ok ∧ ∀ H', Same H H' → Q (.bl (isIntB t)) H'
theorem sc_is_number : FnScope ["thing"] ["thing"] (defScope (top 19)) := ⟨rfl, rfl, rfl, by decide +kernel, rfl, by decide +kernel, by decide +kernel⟩
theorem ok_is_number (T : Txt K mg A) : Okf P w K mg base CX0 1 A.fIN ["thing"] spIN := by
  obtain ⟨fd, F, b⟩ := T.d_is_number
  refine ⟨fd, F.ok sc_is_number (fun vs H Q E h => ?_) (fun cdv Ar outer s H vs Q E hr h => ?_), b⟩
  · obtain ⟨z, t, rfl, _⟩ := h; rfl
  · obtain ⟨v, t, rfl, ht, hd, k⟩ := h
    refine ⟨_, pss_one (ps_ret (pe_and (pe_isi (by rfl) T.b_isinstance (by rfl) T.b_int bt_int (pv 0)) (pe_and (pe_not (pe_isi (by rfl) T.b_isinstance (by rfl) T.b_bool bt_bool (pv 0)))
      (pe_one (pe_chain op_le op_le (pe_un un_neg (pe_cst (by rfl) T.c_MOST_NUMBER)) (pv 0) (pe_cst (by rfl) T.c_MOST_NUMBER)))))), ?_⟩
    rcases co_cases (K := K) ht hd with ⟨rfl, rfl⟩ | ⟨i, rfl, rfl, h1, h2⟩ | ⟨z, rfl, rfl, hz⟩ | ⟨l, a, xs, rfl, rfl, ha, hx, h0, hl40, hw⟩
    · exact ⟨_, rfl, _, _, _, _, _, rfl, .ty _, ht.ty, kit_ty kNi, _, rfl, iteF (k H (Same.refl H))⟩
    · refine ⟨_, rfl, _, _, _, _, _, rfl, .ty _, ht.ty, kit_ty kii, _, rfl, iteT ⟨_, rfl, _, _, _, _, _, rfl, .ty _, ht.ty, kit_ty kib, _, rfl, _, rfl, iteT ?_⟩⟩
      refine ⟨_, rfl, _, rfl, _, _, rfl, rfl, _, rfl, ?_⟩
      rw [decide_eq_true (show -1000000000000000000000000000000 ≤ i from h1)]
      refine iteT ⟨_, _, rfl, rfl, ?_⟩
      show Q (.bl (decide (i ≤ 1000000000000000000000000000000))) H
      rw [decide_eq_true (show i ≤ 1000000000000000000000000000000 from h2)]
      exact k H (Same.refl H)
    · exact ⟨_, rfl, _, _, _, _, _, rfl, .ty _, ht.ty, kit_ty ksi, _, rfl, iteF (k H (Same.refl H))⟩
    · exact ⟨_, rfl, _, _, _, _, _, rfl, .ty _, ht.ty, kit_ty kTi, _, rfl, iteF (k H (Same.refl H))⟩
def spIT : Sp := fun vs H Q _ => ∃ v t, vs = [v] ∧ Th H t v ∧ t.ok ∧ ∀ H', Same H H' → Q (.bl (isStrB t)) H'
theorem sc_is_text : FnScope ["thing", "sign"] ["thing"] (defScope (top 20)) := ⟨rfl, rfl, rfl, by decide +kernel, rfl, by decide +kernel, by decide +kernel⟩
theorem ok_is_text (T : Txt K mg A) : Okf P w K mg base CX0 1 A.fIT ["thing"] spIT := by
  obtain ⟨fd, F, b⟩ := T.d_is_text
  refine ⟨fd, F.ok sc_is_text (fun vs H Q E h => ?_) (fun cdv Ar outer s H vs Q E hr h => ?_), b⟩
  · obtain ⟨z, t, rfl, _⟩ := h; rfl
  · obtain ⟨v, t, rfl, ht, hd, k⟩ := h
    refine ⟨_, pss_cons (ps_if (PW.pt (pw_or (pt_not (pt_val (pe_isi (by rfl) T.b_isinstance (by rfl) T.b_str bt_str (pv 0)))) (pw_or1 (pt_cmpR op_gt (pe_callB call_len (by rfl) T.b_len bt_len (pa_cons (pv 0) pa_nil)) (pe_cst (by rfl) T.c_MOST_SIGNS) (nomark _))))) (pss_one (ps_ret pe_bl)) pss_nil)
      (pss_cons (ps_for PassesOwn.never rfl (pi_str (pv 0)) (pg_name (i := 1) sc_is_text.nd rfl (.inl rfl))
        (pss_one (ps_if (PW.pt (pw_or (pt_not (pt_chain op_le op_le pe_int (pe_callB call_ord (by rfl) T.b_ord bt_ord (pa_cons (pv 1) pa_nil)) pe_int)) (pw_or1 (pt_cmpR op_eq (pe_callB call_ord (by rfl) T.b_ord bt_ord (pa_cons (pv 1) pa_nil)) pe_int (nomark _))))) (pss_one (ps_ret pe_bl)) pss_nil)))
      (pss_one (ps_ret pe_bl))), ?_⟩
    rcases co_cases (K := K) ht hd with ⟨rfl, rfl⟩ | ⟨i, rfl, rfl, h1, h2⟩ | ⟨z, rfl, rfl, hz⟩ | ⟨l, a, xs, rfl, rfl, ha, hx, h0, hl40, hw⟩
    · exact ⟨_, rfl, _, _, _, _, _, rfl, .ty _, ht.ty, kit_ty kNs, _, rfl, iteT (iteT (k H (Same.refl H)))⟩
    · exact ⟨_, rfl, _, _, _, _, _, rfl, .ty _, ht.ty, kit_ty kis, _, rfl, iteT (iteT (k H (Same.refl H)))⟩
    · have hzl : z.length ≤ sizeLine := length_le_of hz (by decide)
      refine ⟨_, rfl, _, _, _, _, _, rfl, .ty _, ht.ty, kit_ty kss, _, rfl, iteF ⟨_, rfl, _, z.length, rfl, ⟨hzl, rfl⟩, _, _, rfl, rfl, _, rfl, ?_⟩⟩
      rw [decide_eq_false (show ¬ (60 : Int) < (z.length : Int) by omega)]
      refine iteF ⟨_, rfl, _, rfl, for_it walk_str (fun j σ H2 => ∃ d, σ = [some (.str z), d] ∧ H2 = H) ⟨none, rfl, rfl⟩ (fun _ _ _ _ _ => trivial) ?_ ?_⟩
      · rintro j x σ H2 H3 hj ⟨d, rfl, rfl⟩ ⟨rfl, c, hc, rfl⟩
        have ok : okC c = true := by
          have q : okS z = true := hd
          simp only [okS, Bool.and_eq_true, List.all_eq_true] at q
          exact q.2 c (List.mem_of_getElem? (by rw [Array.getElem?_toList]; exact hc))
        simp only [okC, Bool.and_eq_true, decide_eq_true_eq, Bool.not_eq_true', decide_eq_false_iff_not] at ok
        refine ⟨_, rfl, _, rfl, rfl, _, _, rfl, rfl, _, rfl, ?_⟩
        rw [decide_eq_true (show (32 : Int) ≤ ((Array.getD #[c] 0 0 : Nat) : Int) from by show (32 : Int) ≤ (c : Int); omega)]
        refine iteT ⟨_, _, rfl, rfl, _, rfl, ?_⟩
        rw [decide_eq_true (show ((Array.getD #[c] 0 0 : Nat) : Int) ≤ 126 from by show (c : Int) ≤ 126; omega)]
        refine iteF ⟨_, rfl, _, rfl, rfl, rfl, _, rfl, ?_⟩
        rw [decide_eq_false (show ¬ V.int ((Array.getD #[c] 0 0 : Nat) : Int) = V.int 37 from fun z => by
          have q : ((c : Nat) : Int) = 37 := V.int.inj z
          omega)]
        exact iteF ⟨_, rfl, rfl⟩
      · rintro σ H2 ⟨d, rfl, rfl⟩
        exact k _ (Same.refl _)
    · exact ⟨_, rfl, _, _, _, _, _, rfl, .ty _, ht.ty, kit_ty kTs, _, rfl, iteT (iteT (k H (Same.refl H)))⟩

/-! ### is_within, is_thing -/
def spIW (d : Nat) : Sp := fun vs H Q _ => ∃ v t n, vs = [v, .int n] ∧ Th H t v ∧ t.within d = true ∧ d ≤ 2 ∧ (d : Int) ≤ n ∧ ∀ H', Same H H' → Q (.bl true) H'
theorem sc_is_within : FnScope ["thing", "deep", "part"] ["thing", "deep"] (defScope (top 21)) := ⟨rfl, rfl, rfl, by decide +kernel, rfl, by decide +kernel, by decide +kernel⟩
theorem ok_is_within (T : Txt K mg A) : ∀ d : Nat, Okf P w K mg base CX0 (d + 2) A.fIW ["thing", "deep"] (spIW d) := by
  intro d
  induction d using Nat.strongRecOn with
  | ind d ih =>
  obtain ⟨fd, F, b⟩ := T.d_is_within
  refine ⟨fd, F.ok sc_is_within (fun vs H Q E h => ?_) (fun cdv Ar outer s H vs Q E hr h => ?_), b⟩
  · obtain ⟨z, t, n, rfl, _⟩ := h; rfl
  · obtain ⟨v, t, n, rfl, ht, hd, hd2, hn, k⟩ := h
    rcases co_cases (K := K) ht hd with ⟨rfl, rfl⟩ | ⟨i, rfl, rfl, h1, h2⟩ | ⟨z, rfl, rfl, hz⟩ | ⟨l, a, xs, rfl, rfl, ha, hx, h0, hl40, hw⟩
    · refine ⟨_, pss_cons (ps_if (PW.pt (pw_or (pt_cmp (pc_isN (pv 0))) (pw_or (pt_val (pe_callO (ok_is_number T) hr (by rfl) T.g_is_number T.d_is_number.kp no0 (pa_cons (pv 0) pa_nil))) (pw_or1 (pt_val (pe_callO (ok_is_text T) hr (by rfl) T.g_is_text T.d_is_text.kp no0 (pa_cons (pv 0) pa_nil))))))) (pss_one (ps_ret pe_bl)) pss_nil) pss_never, ?_⟩
      exact ⟨_, rfl, _, rfl, iteT (iteT (k H (Same.refl H)))⟩
    · refine ⟨_, pss_cons (ps_if (PW.pt (pw_or (pt_cmp (pc_isN (pv 0))) (pw_or (pt_val (pe_callO (ok_is_number T) hr (by rfl) T.g_is_number T.d_is_number.kp no0 (pa_cons (pv 0) pa_nil))) (pw_or1 (pt_val (pe_callO (ok_is_text T) hr (by rfl) T.g_is_text T.d_is_text.kp no0 (pa_cons (pv 0) pa_nil))))))) (pss_one (ps_ret pe_bl)) pss_nil) pss_never, ?_⟩
      exact ⟨_, rfl, _, rfl, iteF ⟨_, rfl, _, _, rfl, ht, within_mono _ hd2 hd, fun H1 s1 => ⟨_, rfl, iteT (iteT (k H1 s1))⟩⟩⟩
    · refine ⟨_, pss_cons (ps_if (PW.pt (pw_or (pt_cmp (pc_isN (pv 0))) (pw_or (pt_val (pe_callO (ok_is_number T) hr (by rfl) T.g_is_number T.d_is_number.kp no0 (pa_cons (pv 0) pa_nil))) (pw_or1 (pt_val (pe_callO (ok_is_text T) hr (by rfl) T.g_is_text T.d_is_text.kp no0 (pa_cons (pv 0) pa_nil))))))) (pss_one (ps_ret pe_bl)) pss_nil) pss_never, ?_⟩
      exact ⟨_, rfl, _, rfl, iteF ⟨_, rfl, _, _, rfl, ht, within_mono _ hd2 hd, fun H1 s1 => ⟨_, rfl, iteF ⟨_, rfl, _, _, rfl, ht.keep (Same.tk s1), within_mono _ hd2 hd, fun H2 s2 => ⟨_, rfl, iteT (k H2 (Same.trans s1 s2))⟩⟩⟩⟩⟩
    · obtain ⟨d, rfl⟩ : ∃ d', d = d' + 1 := ⟨d - 1, by omega⟩
      rw [Nat.add_sub_cancel] at hw
      have G := ih d (by omega)
      refine ⟨_, pss_cons (ps_if (PW.pt (pw_or (pt_cmp (pc_isN (pv 0))) (pw_or (pt_val (pe_callO (ok_is_number T) hr (by rfl) T.g_is_number T.d_is_number.kp no0 (pa_cons (pv 0) pa_nil))) (pw_or1 (pt_val (pe_callO (ok_is_text T) hr (by rfl) T.g_is_text T.d_is_text.kp no0 (pa_cons (pv 0) pa_nil))))))) (pss_one (ps_ret pe_bl)) pss_nil)
        (pss_cons (ps_if (PW.pt (pw_or (pt_not (pt_val (pe_isi (by rfl) T.b_isinstance (by rfl) T.b_tuple bt_tuple (pv 0)))) (pw_or (pt_cmpR op_eq (pv 1) pe_int (nomark _)) (pw_or1 (pt_cmpR op_gt (pe_callB call_len (by rfl) T.b_len bt_len (pa_cons (pv 0) pa_nil)) (pe_cst (by rfl) T.c_MOST_THINGS) (nomark _)))))) (pss_one (ps_ret pe_bl)) pss_nil)
        (pss_cons (ps_for PassesOwn.never rfl (pi_tup (pv 0)) (pg_name (i := 2) sc_is_within.nd rfl (.inl rfl))
          (pss_one (ps_if (pt_not (pt_val (pe_callO G hr (by rfl) T.g_is_within T.d_is_within.kp no0 (pa_cons (pv 2) (pa_cons (pe_op op_sub (pv 1) pe_int) pa_nil))))) (pss_one (ps_ret pe_bl)) pss_nil)))
        (pss_one (ps_ret pe_bl)))), ?_⟩
      refine ⟨_, rfl, _, rfl, iteF ⟨_, rfl, _, _, rfl, ht, within_mono _ hd2 hd, fun H1 s1 => ⟨_, rfl, iteF ⟨_, rfl, _, _, rfl, ht.keep (Same.tk s1), within_mono _ hd2 hd, fun H2 s2 => ⟨_, rfl, iteF ?_⟩⟩⟩⟩⟩
      have s12 : Same H H2 := Same.trans s1 s2
      have ht2 := ht.keep (Same.tk s12)
      refine ⟨_, rfl, _, _, _, _, _, rfl, .ty _, ht2.ty, kit_ty kTT, _, rfl, iteF ⟨_, rfl, rfl, _, rfl, ?_⟩⟩
      rw [decide_eq_false (show ¬ V.int n = V.int 0 from fun z => by have q := V.int.inj z; omega)]
      refine iteF ⟨_, rfl, _, xs.length, rfl, .inr ⟨xs, SqT.of (s12 _ _ ha), rfl⟩, _, _, rfl, rfl, _, rfl, ?_⟩
      rw [decide_eq_false (show ¬ (40 : Int) < (xs.length : Int) from by rw [hx.len]; omega)]
      refine iteF ⟨_, rfl, a, rfl, ⟨xs, SqT.of (s12 _ _ ha)⟩, for_tup (K := K) (a := a) (xs := xs) (fun i σ H' => ∃ c, σ = [some (.ref a), some (.int n), c] ∧ Same H H')
        ⟨none, rfl, s12⟩ (fun i σ H' _ ⟨_, _, sm⟩ => SqT.of (sm _ _ ha)) ?_ ?_⟩
      · rintro i x σ H' hi ⟨c, rfl, sm⟩
        obtain ⟨t, hti, htx⟩ := hx.get hi
        refine ⟨_, rfl, _, rfl, _, _, rfl, rfl, x, t, n - 1, rfl, htx.keep (Same.tk sm), withins_mem hw t (List.mem_of_getElem? hti), by omega, by omega, fun H3 s3 => ⟨_, rfl, iteF ⟨_, rfl, Same.trans sm s3⟩⟩⟩
      · rintro σ H' ⟨c, rfl, sm⟩
        exact k H' sm
def spITh : Sp := fun vs H Q _ => ∃ v t, vs = [v] ∧ Th H t v ∧ t.ok ∧ ∀ H', Same H H' → Q (.bl true) H'
theorem sc_is_thing : FnScope ["thing"] ["thing"] (defScope (top 22)) := ⟨rfl, rfl, rfl, by decide +kernel, rfl, by decide +kernel, by decide +kernel⟩
theorem ok_is_thing (T : Txt K mg A) : Okf P w K mg base CX0 5 A.fITh ["thing"] spITh := by
  obtain ⟨fd, F, b⟩ := T.d_is_thing
  refine ⟨fd, F.ok sc_is_thing (fun vs H Q E h => ?_) (fun cdv Ar outer s H vs Q E hr h => ?_), b⟩
  · obtain ⟨z, t, rfl, _⟩ := h; rfl
  · obtain ⟨v, t, rfl, ht, hd, k⟩ := h
    refine ⟨_, pss_one (ps_ret (pe_callO (ok_is_within T 2) hr (by rfl) T.g_is_within T.d_is_within.kp no0 (pa_cons (pv 0) (pa_cons (pe_cst (by rfl) T.c_DEEPEST) pa_nil)))), ?_⟩
    exact ⟨_, rfl, v, t, 5, rfl, ht, hd, by decide, by decide, k⟩

/-! ### the order of keys -/
def kindI : T → Int
  | .non => 0
  | .int _ => 1
  | .str _ => 2
  | .tup _ => 3
def spKO : Sp := fun vs H Q _ => ∃ v t, vs = [v] ∧ Th H t v ∧ t.keyB = true ∧ Q (.int (kindI t)) H
theorem sc_kind_of : FnScope ["thing"] ["thing"] (defScope (top 23)) := ⟨rfl, rfl, rfl, by decide +kernel, rfl, by decide +kernel, by decide +kernel⟩
theorem ok_kind_of (T : Txt K mg A) : Okf P w K mg base CX0 1 A.fKO ["thing"] spKO := by
  obtain ⟨fd, F, b⟩ := T.d_kind_of
  refine ⟨fd, F.ok sc_kind_of (fun vs H Q E h => ?_) (fun cdv Ar outer s H vs Q E hr h => ?_), b⟩
  · obtain ⟨z, t, rfl, _⟩ := h; rfl
  · obtain ⟨v, t, rfl, ht, hd, k⟩ := h
    refine ⟨_, pss_cons (ps_if (pt_cmp (pc_isN (pv 0))) pss_never pss_nil)
      (pss_cons (ps_if (pt_val (pe_isi (by rfl) T.b_isinstance (by rfl) T.b_int bt_int (pv 0))) (pss_one (ps_ret pe_int)) pss_nil)
      (pss_cons (ps_if (pt_val (pe_isi (by rfl) T.b_isinstance (by rfl) T.b_str bt_str (pv 0))) (pss_one (ps_ret pe_int)) pss_nil) pss_never)), ?_⟩
    rcases ht.key_shape hd with ⟨i, rfl, rfl⟩ | ⟨z, rfl, rfl⟩
    · exact ⟨_, rfl, _, rfl, iteF ⟨_, rfl, _, _, _, _, _, rfl, .ty _, ht.ty, kit_ty kii, _, rfl, iteT k⟩⟩
    · exact ⟨_, rfl, _, rfl, iteF ⟨_, rfl, _, _, _, _, _, rfl, .ty _, ht.ty, kit_ty ksi, _, rfl, iteF ⟨_, rfl, _, _, _, _, _, rfl, .ty _, ht.ty, kit_ty kss, _, rfl, iteT k⟩⟩⟩
def sideI (a b : T) : Int := if kindI a ≠ kindI b then 1 - 2 * (if kindI a < kindI b then 1 else 0) else if a = b then 0 else 1 - 2 * (if aheadT a b = true then 1 else 0)
theorem sideI_neg {a b : T} (ha : a.keyB = true) (hb : b.keyB = true) : decide (sideI a b < 0) = aheadT a b := by
  cases a with
  | non => cases ha
  | tup l => cases ha
  | int i =>
    cases b with
    | non => cases hb
    | tup l => cases hb
    | int j =>
      by_cases e : i = j
      · subst e; simp [sideI, aheadT, kindI]
      · by_cases c : i < j <;> simp [sideI, aheadT, kindI, e, c]
    | str z => simp [sideI, aheadT, kindI]
  | str y =>
    cases b with
    | non => cases hb
    | tup l => cases hb
    | int j => simp [sideI, aheadT, kindI]
    | str z =>
      by_cases e : y = z
      · subst e; simp [sideI, aheadT, kindI]
      · by_cases c : y.cps.toList < z.cps.toList <;> simp [sideI, aheadT, kindI, e, c]
def spSO : Sp := fun vs H Q _ => ∃ v u t r, vs = [v, u] ∧ Th H t v ∧ Th H r u ∧ t.keyB = true ∧ r.keyB = true ∧ Q (.int (sideI t r)) H
theorem sc_side_of : FnScope ["one", "other", "part", "another", "side"] ["one", "other"] (defScope (top 24)) := ⟨rfl, rfl, rfl, by decide +kernel, rfl, by decide +kernel, by decide +kernel⟩
theorem ok_side_of (T : Txt K mg A) : Okf P w K mg base CX0 2 A.fSO ["one", "other"] spSO := by
  obtain ⟨fd, F, b⟩ := T.d_side_of
  refine ⟨fd, F.ok sc_side_of (fun vs H Q E h => ?_) (fun cdv Ar outer s H vs Q E hr h => ?_), b⟩
  · obtain ⟨v, u, t, r, rfl, _⟩ := h; rfl
  · obtain ⟨v, u, t, r, rfl, ht, hu, kt, ku, k⟩ := h
    have ck : ∀ (i : Nat) {X : Cx}, True := fun _ _ => trivial
    refine ⟨_, pss_cons (ps_if (pt_cmpR op_ne (pe_callO (ok_kind_of T) hr (by rfl) T.g_kind_of T.d_kind_of.kp no0 (pa_cons (pv 0) pa_nil)) (pe_callO (ok_kind_of T) hr (by rfl) T.g_kind_of T.d_kind_of.kp no0 (pa_cons (pv 1) pa_nil)) (nomark _))
        (pss_one (ps_ret (pe_op op_sub pe_int (pe_op op_mul pe_int (pe_callTy call_int1 (by rfl) T.b_int bt_int (pa_cons (pe_cmpR op_lt (pe_callO (ok_kind_of T) hr (by rfl) T.g_kind_of T.d_kind_of.kp no0 (pa_cons (pv 0) pa_nil)) (pe_callO (ok_kind_of T) hr (by rfl) T.g_kind_of T.d_kind_of.kp no0 (pa_cons (pv 1) pa_nil)) (nomark _)) pa_nil)))))) pss_nil)
      (pss_cons (ps_if (pt_cmpR op_eq (pv 0) (pv 1) (nomark _)) (pss_one (ps_ret pe_int)) pss_nil)
      (pss_cons (ps_if (pt_not (pt_val (pe_isi (by rfl) T.b_isinstance (by rfl) T.b_tuple bt_tuple (pv 0))))
        (pss_one (ps_ret (pe_op op_sub pe_int (pe_op op_mul pe_int (pe_callTy call_int1 (by rfl) T.b_int bt_int (pa_cons (pe_cmpR (OpR.or op_lt op_lt_str) (pv 0) (pv 1) (nomark _)) pa_nil)))))) pss_nil) pss_never)), ?_⟩
    refine ⟨_, rfl, v, t, rfl, ht, kt, _, rfl, u, r, rfl, hu, ku, rfl, _, rfl, ?_⟩
    by_cases c : kindI t = kindI r
    · rw [decide_eq_true (show V.int (kindI t) = V.int (kindI r) from by rw [c])]
      refine iteF ?_
      have fin : ∀ (x : Bool), x = aheadT t r → t ≠ r → Q (.int (1 - 2 * (if x = true then 1 else 0))) H := fun x e ne => by
        have e2 : sideI t r = 1 - 2 * (if x = true then 1 else 0) := by
          unfold sideI
          rw [if_neg (fun z => z c), if_neg ne, e]
        rw [← e2]
        exact k
      rcases ht.key_shape kt with ⟨i, rfl, rfl⟩ | ⟨z, rfl, rfl⟩
      · rcases hu.key_shape ku with ⟨j, rfl, rfl⟩ | ⟨z, rfl, rfl⟩
        · refine ⟨_, rfl, _, rfl, rfl, _, rfl, ?_⟩
          by_cases e : i = j
          · subst e
            rw [decide_eq_true rfl]
            refine iteT ?_
            have e2 : sideI (.int i) (.int i) = 0 := by simp [sideI]
            rw [e2] at k
            exact k
          · rw [decide_eq_false (fun z => e (V.int.inj z))]
            refine iteF ⟨_, rfl, _, _, _, _, _, rfl, .ty _, ht.ty, kit_ty kiT, _, rfl, iteT ?_⟩
            refine ⟨_, rfl, _, rfl, .inl ⟨_, _, rfl, rfl, .inr ⟨_, rfl, _, _, rfl, rfl, .inl ⟨by decide, by decide⟩, _, _, rfl, rfl, ?_⟩⟩⟩
            exact fin _ rfl (fun z => e (PV.T.int.inj z))
        · exact absurd c (by simp [kindI])
      · rcases hu.key_shape ku with ⟨j, rfl, rfl⟩ | ⟨y, rfl, rfl⟩
        · exact absurd c (by simp [kindI])
        · refine ⟨_, rfl, _, rfl, rfl, _, rfl, ?_⟩
          by_cases e : z = y
          · subst e
            rw [decide_eq_true rfl]
            refine iteT ?_
            have e2 : sideI (.str z) (.str z) = 0 := by simp [sideI]
            rw [e2] at k
            exact k
          · rw [decide_eq_false (fun z => e (V.str.inj z))]
            refine iteF ⟨_, rfl, _, _, _, _, _, rfl, .ty _, ht.ty, kit_ty ksT, _, rfl, iteT ?_⟩
            refine ⟨_, rfl, _, rfl, .inr ⟨_, _, rfl, rfl, .inr ⟨_, rfl, _, _, rfl, rfl, .inl ⟨by decide, by decide⟩, _, _, rfl, rfl, ?_⟩⟩⟩
            exact fin _ rfl (fun z => e (PV.T.str.inj z))
    · rw [decide_eq_false (show ¬ V.int (kindI t) = V.int (kindI r) from fun z => c (V.int.inj z))]
      refine iteT ⟨_, rfl, v, t, rfl, ht, kt, _, rfl, u, r, rfl, hu, ku, _, _, rfl, rfl, .inr ⟨_, rfl, _, _, rfl, rfl, .inl ⟨by decide, by decide⟩, _, _, rfl, rfl, ?_⟩⟩
      have e2 : sideI t r = 1 - 2 * (if decide (kindI t < kindI r) = true then 1 else 0) := by
        unfold sideI
        rw [if_pos c]
        by_cases d : kindI t < kindI r
        · rw [if_pos d, if_pos (decide_eq_true d)]
        · rw [if_neg d, if_neg (by simpa using d)]
      rw [e2] at k
      exact k
def spAH : Sp := fun vs H Q _ => ∃ v u t r, vs = [v, u] ∧ Th H t v ∧ Th H r u ∧ t.keyB = true ∧ r.keyB = true ∧ Q (.bl (aheadT t r)) H
theorem sc_ahead : FnScope ["one", "other"] ["one", "other"] (defScope (top 25)) := ⟨rfl, rfl, rfl, by decide +kernel, rfl, by decide +kernel, by decide +kernel⟩
theorem ok_ahead (T : Txt K mg A) : Okf P w K mg base CX0 3 A.fAH ["one", "other"] spAH := by
  obtain ⟨fd, F, b⟩ := T.d_ahead
  refine ⟨fd, F.ok sc_ahead (fun vs H Q E h => ?_) (fun cdv Ar outer s H vs Q E hr h => ?_), b⟩
  · obtain ⟨v, u, t, r, rfl, _⟩ := h; rfl
  · obtain ⟨v, u, t, r, rfl, ht, hu, kt, ku, k⟩ := h
    refine ⟨_, pss_one (ps_ret (pe_cmpR op_lt (pe_callO (ok_side_of T) hr (by rfl) T.g_side_of T.d_side_of.kp no0 (pa_cons (pv 0) (pa_cons (pv 1) pa_nil))) pe_int (nomark _))), ?_⟩
    refine ⟨_, rfl, _, rfl, v, u, t, r, rfl, ht, hu, kt, ku, _, _, rfl, rfl, ?_⟩
    show Q (.bl (decide (sideI t r < 0))) H
    rw [sideI_neg kt ku]
    exact k
end
end PV
/-! W3: Clash.__init__, Vault's methods. -/
namespace PV
open PySem PySem.Spec L2
section
variable {P : Program} {w : World} {K : PySem.W.Frag} {mg : Str → Option Value} {base : Heap} {A : Ad}

/-! ### Clash.__init__ -/
def spCLi (A : Ad) : Sp := fun vs H Q _ => ∃ a v1 v2, vs = [.ref a, v1, v2] ∧ H a = some (exo a A.cCL none) ∧
  ∀ d, H d = none → d ≠ a → Q .non (upd (upd (upd H d (exd d [("one", v1)])) a (exo a A.cCL (some d))) d (exd d [("other", v2), ("one", v1)]))
theorem sc_CLi : FnScope ["self", "one", "other"] ["self", "one", "other"] (defScope (inClass (top 4) 0)) := ⟨rfl, rfl, rfl, by decide +kernel, rfl, by decide +kernel, by decide +kernel⟩
theorem ok_CLi (T : Txt K mg A) : Okf P w K mg base CX0 1 A.fCLi ["self", "one", "other"] (spCLi A) := by
  obtain ⟨fd, F, b⟩ := T.d_Clash_init
  refine ⟨fd, F.ok sc_CLi (fun vs H Q E h => ?_) (fun cdv Ar outer s H vs Q E hr h => ?_), b⟩
  · obtain ⟨a, v1, v2, rfl, _⟩ := h; rfl
  · obtain ⟨a, v1, v2, rfl, ha, k⟩ := h
    refine ⟨_, pss_cons (ps_expr (pe_vinit (by rfl) T.g_VaultError T.vi (pa_cons (pv 0) (pa_cons pe_str pa_nil)))) (pss_cons (ps_ost (pv 0) (pv 1)) (pss_one (ps_ost (pv 0) (pv 2)))), ?_⟩
    refine ⟨_, rfl, a, A.cCL, _, rfl, by simp, T.oex, ha, _, rfl, _, rfl, a, A.cCL, rfl, T.oex, T.cl_one, .inl ⟨ha, fun d hd ne => ?_⟩⟩
    refine ⟨_, rfl, _, rfl, a, A.cCL, rfl, T.oex, T.cl_other, .inr ⟨d, [("one", v1)], upd_same, by rw [upd_ne ne, upd_same], by simp, k d hd ne⟩⟩
/-- C(e, ..) for an own error class -/
theorem pmk_oexO {X : Cx} {CX : CXT} {x : Str} {C fI : Addr} {k k0 : Nat} {ps : List Str} {sp : Sp} {e : Expr} {es : List Expr} {ta : TA} {p pos : Pos} (T : OexC X.K C) (iC : PySem.W.findIn X.K (.ref C) "__init__" = some (some (.ref fI))) (tI : PySem.W.typeIn X.K (.ref fI) = some (.type "function"))
    (G : Okf X.prog X.w X.K X.mg X.base CX k fI ps sp) (hr : Room k0 X.A) (hx : Passes CX X (fun _ _ _ => False)) (hg : Gl X x) (hm : X.mg x = some (.ref C)) (ha : PA X (e :: es) ta) (hle : k + 1 ≤ k0 := by first | decide | omega)
    (hdb : (x == ("__debug__" : Str)) = false := by decide) (he : starEach (e :: es) X.env = (false, eval e X.env) :: starEach es X.env := by rfl) (hpl : (backTo pos (starEach es X.env)).any (·.1) = false := by rfl) :
    PMk X (.Call (.Name x p) (e :: es) [] pos) (tMkO C sp [] ta) := by
  obtain ⟨fd, F, b⟩ := G
  exact pmk_oex T iC tI F (hr.mono hle) b .nil hx hg hm ha hdb he hpl
/-- behind Clash(one, other): all stands, but the error's own dict is new -/
theorem clash_made {A : Ad} {H : Hp} {a d : Addr} {v1 v2 : V} {t1 t2 : T} (ha : H a = none) (hd : H d = none) (ne : d ≠ a) (h1 : Th H t1 v1) (h2 : Th H t2 v2) (o1 : t1.ok) (o2 : t2.ok) (nt : t1 ≠ t2) (hs : sealOf t1 = sealOf t2) :
    Same H (upd (del (upd (upd (upd (upd H a (exo a A.cCL none)) d (exd d [("one", v1)])) a (exo a A.cCL (some d))) d (exd d [("other", v2), ("one", v1)])) a) d (.xd [("other", v2), ("one", v1)])) ∧
    ClashAt A (upd (del (upd (upd (upd (upd H a (exo a A.cCL none)) d (exd d [("one", v1)])) a (exo a A.cCL (some d))) d (exd d [("other", v2), ("one", v1)])) a) d (.xd [("other", v2), ("one", v1)])) (.ref A.cCL) (some d) := by
  have sm : Same H (upd (del (upd (upd (upd (upd H a (exo a A.cCL none)) d (exd d [("one", v1)])) a (exo a A.cCL (some d))) d (exd d [("other", v2), ("one", v1)])) a) d (.xd [("other", v2), ("one", v1)])) := fun b o e => by
    have na := ne_of_none e ha
    have nd := ne_of_none e hd
    rw [upd_ne nd, del_ne na, upd_ne nd, upd_ne na, upd_ne nd, upd_ne na]
    exact e
  refine ⟨sm, rfl, d, _, v1, v2, t1, t2, rfl, upd_same, ?_, ?_, h1.keep (Same.tk sm), h2.keep (Same.tk sm), o1, o2, nt, hs⟩
  · rw [look_cons, if_neg (by decide +kernel), look_cons, if_pos rfl]
  · rw [look_cons, if_pos rfl]

/-! ### Vault.__init__, has, thing, lay -/
def spVi (K : PySem.W.Frag) : Sp := fun vs H Q _ => ∃ p C dx, vs = [.ref p] ∧ Cls K C ∧ NoAttr K C "by_seal" ∧ H p = some (.ins C dx []) ∧ ∀ d, H d = none → Q .non (upd (upd H d (.dK [])) p (.ins C dx (fsP d)))
theorem sc_Vi : FnScope ["self"] ["self"] (defScope (inClass (top 27) 0)) := ⟨rfl, rfl, rfl, by decide +kernel, rfl, by decide +kernel, by decide +kernel⟩
theorem ok_Vi (T : Txt K mg A) : Okf P w K mg base CX0 1 A.fVi ["self"] (spVi K) := by
  obtain ⟨fd, F, b⟩ := T.d_Vault_init
  refine ⟨fd, F.ok sc_Vi (fun vs H Q E h => ?_) (fun cdv Ar outer s H vs Q E hr h => ?_), b⟩
  · obtain ⟨a, C, dx, rfl, _⟩ := h; rfl
  · obtain ⟨p, C, dx, rfl, cl, na, hp, k⟩ := h
    refine ⟨_, pss_one (ps_fld (pv 0) pe_dnewK rfl), ?_⟩
    intro d hd
    exact ⟨_, rfl, p, C, dx, [], rfl, by rw [upd_ne (ne_of_none hp hd)]; exact hp, cl, na, by show 0 < 1000; decide, k d hd⟩
/-- the vault at a has its own dict at d -/
structure OwnAt (K : PySem.W.Frag) (H : Hp) (a d : Addr) (m : M) : Prop where
  ex : ∃ C dx fs, H a = some (.ins C dx fs) ∧ fs.lookup ("by_seal" : Str) = some (.ref d) ∧ Cls K C ∧ NoAttr K C "by_seal"
  dm : DM H d m
def spVh (K : PySem.W.Frag) : Sp := fun vs H Q _ => ∃ a d m n, vs = [.ref a, .int n] ∧ OwnAt K H a d m ∧ Q (.bl (M.get m n).isSome) H
theorem sc_Vh : FnScope ["self", "number"] ["self", "number"] (defScope (inClass (top 27) 3)) := ⟨rfl, rfl, rfl, by decide +kernel, rfl, by decide +kernel, by decide +kernel⟩
theorem MV.some_eq {H : Hp} {kvs : List (Key × V)} {m : M} (h : MV H kvs m) (n : Int) : (valV kvs (Sum.inl n)).isSome = (M.get m n).isSome := by
  rcases h.get n with ⟨v, t, e1, e2, _⟩ | ⟨e1, e2⟩ <;> rw [e1, e2] <;> rfl
theorem ok_Vh (T : Txt K mg A) : Okf P w K mg base CX0 1 A.fVh ["self", "number"] (spVh K) := by
  obtain ⟨fd, F, b⟩ := T.d_Vault_has
  refine ⟨fd, F.ok sc_Vh (fun vs H Q E h => ?_) (fun cdv Ar outer s H vs Q E hr h => ?_), b⟩
  · obtain ⟨a, d, m, n, rfl, _⟩ := h; rfl
  · obtain ⟨a, d, m, n, rfl, ⟨⟨C, dx, fs, ha, hl, cl, na⟩, kvs, hd, mv⟩, k⟩ := h
    refine ⟨_, pss_one (ps_ret (pe_cmp (pc_din (hu_of hr) (pv 1) (pe_fld (pv 0) rfl)))), ?_⟩
    refine ⟨_, rfl, _, rfl, a, C, dx, fs, _, rfl, ha, cl, na, hl, d, _, rfl, DGet.k (k := Sum.inl n) hd, ?_⟩
    rw [mv.some_eq]
    exact k
def spVt (K : PySem.W.Frag) (A : Ad) : Sp := fun vs H Q E => ∃ a d m n, vs = [.ref a, .int n] ∧ OwnAt K H a d m ∧ (∀ t v, M.get m n = some t → Th H t v → Q v H) ∧ (M.get m n = none → E (.ref A.cNP) none H)
theorem sc_Vt : FnScope ["self", "number"] ["self", "number"] (defScope (inClass (top 27) 2)) := ⟨rfl, rfl, rfl, by decide +kernel, rfl, by decide +kernel, by decide +kernel⟩
theorem ok_Vt (T : Txt K mg A) : Okf P w K mg base (L2.CX P w) 1 A.fVt ["self", "number"] (spVt K A) := by
  obtain ⟨fd, F, b⟩ := T.d_Vault_thing
  refine ⟨fd, F.okX sc_Vt (fun vs H Q E h => ?_) (fun cdv Ar outer s H vs Q E hr h => ?_), b⟩
  · obtain ⟨a, d, m, n, rfl, _⟩ := h; rfl
  · obtain ⟨a, d, m, n, rfl, ⟨⟨C, dx, fs, ha, hl, cl, na⟩, kvs, hd, mv⟩, k, kn⟩ := h
    refine ⟨_, pss_cons (ps_if (pt_cmp (pc_dnotin (hu_of hr) (pv 1) (pe_fld (pv 0) rfl)))
        (pss_one (ps_raise rfl (takes_of rfl rfl rfl rfl) (pmk_own PySem.F.excBase_ValueError T.np T.g_NoPaper T.np_k (raises_own T.np_b T.np_t) (by rfl)))) pss_nil)
      (pss_one (ps_ret (pe_dget (hu_of hr) (pe_fld (pv 0) rfl) (pv 1) (fun _ _ => rfl)))), ?_⟩
    refine ⟨_, rfl, _, rfl, a, C, dx, fs, _, rfl, ha, cl, na, hl, d, _, rfl, DGet.k (k := Sum.inl n) hd, _, rfl, ?_⟩
    rcases mv.get n with ⟨v, t, e1, e2, ht⟩ | ⟨e1, e2⟩
    · rw [e1]
      refine iteF ⟨_, rfl, a, C, dx, fs, _, rfl, ha, cl, na, hl, _, rfl, d, v, rfl, ?_, k t v e2 ht⟩
      rw [← e1]
      exact DGet.k (k := Sum.inl n) hd
    · rw [e1]
      exact iteT (kn e2)
def spVl (K : PySem.W.Frag) (A : Ad) : Sp := fun vs H Q E => ∃ a d m v t, vs = [.ref a, v] ∧ OwnAt K H a d m ∧ Mok m ∧ m.length ≤ 1000000 ∧ Th H t v ∧ t.ok ∧
  ((∀ u, M.get m (sealOf t) = some u → u = t) → ∀ H', Fit [d] H H' → DM H' d (m.put (sealOf t) t) → Q (.int (sealOf t)) H') ∧
  (∀ u, M.get m (sealOf t) = some u → u ≠ t → ∀ H' dd, Same H H' → ClashAt A H' (.ref A.cCL) (some dd) → E (.ref A.cCL) (some dd) H')
theorem sc_Vl : FnScope ["self", "new", "number"] ["self", "new"] (defScope (inClass (top 27) 1)) := ⟨rfl, rfl, rfl, by decide +kernel, rfl, by decide +kernel, by decide +kernel⟩
theorem OwnAt.nl {H H' : Hp} {a d : Addr} {m : M} (o : OwnAt K H a d m) (k : NL H H') : OwnAt K H' a d m := by
  obtain ⟨⟨C, dx, fs, ha, hl, cl, na⟩, dm⟩ := o
  exact ⟨⟨C, dx, fs, k _ _ ha rfl, hl, cl, na⟩, dm.nl k⟩
theorem ok_Vl (T : Txt K mg A) : Okf P w K mg base (L2.CX P w) 6 A.fVl ["self", "new"] (spVl K A) := by
  obtain ⟨fd, F, b⟩ := T.d_Vault_lay
  refine ⟨fd, F.okX sc_Vl (fun vs H Q E h => ?_) (fun cdv Ar outer s H vs Q E hr h => ?_), b⟩
  · obtain ⟨a, d, m, v, t, rfl, _⟩ := h; rfl
  · obtain ⟨a, d, m, v, t, rfl, own, mok, hlen, ht, hok, kq, ke⟩ := h
    refine ⟨_, pss_cons (ps_set (i := 2) sc_Vl.nd rfl (.inl rfl) (pe_callO (ok_seal T) hr (by rfl) T.g_seal T.d_seal.kp no0 (pa_cons (pv 1) pa_nil)))
      (pss_cons (ps_if (PW.pt (pw_and (pt_cmp (pc_din (hu_of hr) (pv 2) (pe_fld (pv 0) rfl))) (pw_and1 (pt_cmpR (op_neD hr.units) (pe_dget (hu_of hr) (pe_fld (pv 0) rfl) (pv 2) (fun _ _ => rfl)) (pv 1) (nomark _)))))
        (pss_one (ps_raise rfl (takes_of rfl rfl rfl rfl) (pmk_oexO T.oex T.cl_init T.cl_ty (ok_CLi T) hr pass0 (by rfl) T.g_Clash (pa_cons (pe_dget (hu_of hr) (pe_fld (pv 0) rfl) (pv 2) (fun _ _ => rfl)) (pa_cons (pv 1) pa_nil))))) pss_nil)
      (pss_cons (ps_dput (hu_of hr) (pe_fld (pv 0) rfl) (pv 2) (pv 1) rfl)
      (pss_one (ps_ret (pv 2))))), ?_⟩
    refine ⟨_, rfl, v, t, rfl, ht, hok, fun H1 sm => ?_⟩
    obtain ⟨⟨C, dx, fs, ha, hl, cl, na⟩, kvs, hd, mv⟩ := own.nl (.same sm)
    have ht1 := ht.keep (Same.tk sm)
    refine ⟨_, rfl, _, rfl, a, C, dx, fs, _, rfl, ha, cl, na, hl, d, _, rfl, DGet.k (k := Sum.inl (sealOf t)) hd, _, rfl, ?_⟩
    have fit : ∀ H', H' = upd H1 d (.dK (putK kvs (Sum.inl (sealOf t)) v)) → (∀ u, M.get m (sealOf t) = some u → u = t) → Q (.int (sealOf t)) H' := fun H' e hu => by
      subst e
      exact kq hu _ ((Fit.same sm).dict hd (by simp)) ⟨_, upd_same, (mv.put (sealOf t) ht1).keep (fun b xs e => by rw [upd_ne (ne_of e hd (by intro z; cases z))]; exact e)⟩
    have len : kvs.length < sizeLine := Nat.lt_of_le_of_lt (show kvs.length ≤ 10 ^ 6 by rw [mv.len]; exact hlen) big2
    rcases mv.get (sealOf t) with ⟨u, tu, e1, e2, hu⟩ | ⟨e1, e2⟩
    · rw [e1]
      obtain ⟨su, ou⟩ := mok.at e2
      refine iteT ⟨_, rfl, a, C, dx, fs, _, rfl, ha, cl, na, hl, _, rfl, d, u, rfl, by rw [← e1]; exact DGet.k (k := Sum.inl (sealOf t)) hd, _, rfl, tu.py, t.py, hu.dp, ht1.dp, shaped_of ou (by decide), shaped_of hok (by decide), _, rfl, ?_⟩
      rw [eqv_dec]
      by_cases c : tu = t
      · rw [decide_eq_true c]
        refine iteF ⟨_, rfl, _, rfl, a, C, dx, fs, _, rfl, ha, cl, na, hl, _, rfl, d, _, rfl, DPut.k (k := Sum.inl (sealOf t)) (v := v) hd len, _, rfl, fit _ rfl fun u' e => ?_⟩
        rw [e2] at e
        injection e with e
        rw [← e]
        exact c
      · rw [decide_eq_false c]
        refine iteT ⟨_, rfl, a, C, dx, fs, _, rfl, ha, cl, na, hl, _, rfl, d, u, rfl, by rw [← e1]; exact DGet.k (k := Sum.inl (sealOf t)) hd, _, rfl, by simp, fun e he => ?_⟩
        refine ⟨e, u, v, rfl, upd_same, fun dd hdd ne => ⟨rfl, dd, _, by rw [upd_ne (Ne.symm ne), upd_same], upd_same, by rw [upd_ne ne] at hdd; exact hdd, ?_⟩⟩
        rw [upd_ne ne] at hdd
        obtain ⟨q1, q2⟩ := clash_made (A := A) he hdd ne hu ht1 ou hok c su
        exact ke tu e2 c _ _ (Same.trans sm q1) q2
    · rw [e1]
      refine iteF ⟨_, rfl, _, rfl, a, C, dx, fs, _, rfl, ha, cl, na, hl, _, rfl, d, _, rfl, DPut.k (k := Sum.inl (sealOf t)) (v := v) hd len, _, rfl, fit _ rfl fun u' e => ?_⟩
      rw [e2] at e
      cases e
end
end PV
/-! W3b: Reader's methods; thing and lay of any vault. -/
namespace PV
open PySem PySem.Spec L2
section
variable {P : Program} {w : World} {K : PySem.W.Frag} {mg : Str → Option Value} {base : Heap} {A : Ad}
/-! ### the promises of thing and lay, whatever the vault -/
def spThing (A : Ad) (kd : Kd) : Sp := fun vs H Q E => ∃ a fp s n, vs = [.ref a, .int n] ∧ Vat A kd H a fp s ∧ s.Ok ∧ s.noted.length ≤ 1000000 ∧
  (∀ t, s.see n = some t → ∀ H' v, Fit fp H H' → Vat A kd H' a fp (s.rd t) → Th H' t v → Q v H') ∧ (s.see n = none → ∀ H', Fit fp H H' → E (.ref A.cNP) none H')
def spLay (A : Ad) (kd : Kd) : Sp := fun vs H Q E => ∃ a fp s v t, vs = [.ref a, v] ∧ Vat A kd H a fp s ∧ s.Ok ∧ s.own.length ≤ 1000000 ∧ Th H t v ∧ t.ok ∧
  (LayOK s [t] → ∀ H', Fit fp H H' → Vat A kd H' a fp (s.lays [t]) → Q (.int (sealOf t)) H') ∧
  (¬ LayOK s [t] → ∀ H' dd, Fit fp H H' → ClashAt A H' (.ref A.cCL) (some dd) → E (.ref A.cCL) (some dd) H')
theorem plain_own {T : Txt K mg A} {C : Addr} {H : Hp} {a d : Addr} {m : M} (hc : C = A.cK ∨ C = A.cW) (h : PlainAt C H a d m) : OwnAt K H a d m := by
  obtain ⟨dx, h1, h2⟩ := h
  refine ⟨⟨C, dx, _, h1, lookP, ?_, ?_⟩, h2⟩
  · rcases hc with rfl | rfl
    · exact T.i_cK
    · exact T.i_cW
  · rcases hc with rfl | rfl
    · exact T.n_cK_by_seal
    · exact T.n_cW_by_seal
theorem plain_see {s : VS} (hb : s.ben = none) (n : Int) : s.see n = M.get s.own n := by
  unfold VS.see VS.bget
  rw [hb]
  cases M.get s.own n <;> rfl
theorem plain_rd {s : VS} (hb : s.ben = none) (t : T) : s.rd t = s := by
  unfold VS.rd
  rw [hb]
  split <;> rfl
theorem plain_thing {C : Addr} (T : Txt K mg A) (hc : C = A.cK ∨ C = A.cW) {a d : Addr} {s : VS} {n : Int} {H : Hp} {Q : VK} {E : XK} (hb : s.ben = none) (h : PlainAt C H a d s.own)
    (k1 : ∀ t, s.see n = some t → ∀ H' v, Fit [d] H H' → PlainAt C H' a d (s.rd t).own → Th H' t v → Q v H') (k2 : s.see n = none → ∀ H', Fit [d] H H' → E (.ref A.cNP) none H') : spVt K A [.ref a, .int n] H Q E :=
  ⟨a, d, s.own, n, rfl, plain_own (T := T) hc h, fun t v e ht => k1 t (by rw [plain_see hb]; exact e) H v (Fit.refl _ _) (by rw [plain_rd hb]; exact h) ht, fun e => k2 (by rw [plain_see hb]; exact e) H (Fit.refl _ _)⟩
theorem plain_lay {C : Addr} (T : Txt K mg A) (hc : C = A.cK ∨ C = A.cW) {a d : Addr} {s : VS} {v : V} {t : PV.T} {H : Hp} {Q : VK} {E : XK} (hb : s.ben = none) (hok : s.Ok) (h : PlainAt C H a d s.own) (hl : s.own.length ≤ 1000000) (ht : Th H t v) (ot : t.ok)
    (k1 : LayOK s [t] → ∀ H', Fit [d] H H' → PlainAt C H' a d (s.lays [t]).own → Q (.int (sealOf t)) H') (k2 : ¬ LayOK s [t] → ∀ H' dd, Fit [d] H H' → ClashAt A H' (.ref A.cCL) (some dd) → E (.ref A.cCL) (some dd) H') : spVl K A [.ref a, v] H Q E := by
  have nob : ∀ n u, ¬ s.bget n = some u := fun n u e => by
    unfold VS.bget at e
    rw [hb] at e
    cases e
  refine ⟨a, d, s.own, v, t, rfl, plain_own (T := T) hc h, hok.own, hl, ht, ot, fun hu H' f dm => ?_, fun u e ne H' dd sm ca => k2 (fun z => ne (LayOK_one.mp z u (.inr e))) H' dd (Fit.same sm) ca⟩
  refine k1 (LayOK_one.mpr fun u hu' => ?_) H' f ?_
  · rcases hu' with e | e
    · exact absurd e (nob _ _)
    · exact hu u e
  · obtain ⟨dx, h1, _⟩ := h
    exact ⟨dx, f _ _ h1 (.inr rfl), dm⟩

/-! ### Reader -/
def spRi (K : PySem.W.Frag) (A : Ad) : Sp := fun vs H Q _ => ∃ p b dx, vs = [.ref p, .ref b] ∧ H p = some (.ins A.cR dx []) ∧
  ∀ H' d e, (∀ c o, H c = some o → c ≠ p → H' c = some o) → H' p = some (.ins A.cR dx (fsR d b e)) → H' d = some (.dK []) → H' e = some (.dK []) → d ≠ e → H d = none → H e = none → Q .non H'
theorem sc_Ri : FnScope ["self", "keeper"] ["self", "keeper"] (defScope (inClass (top 29) 0)) := ⟨rfl, rfl, rfl, by decide +kernel, rfl, by decide +kernel, by decide +kernel⟩
theorem put_ben {d b : Addr} : putF "beneath" (.ref b) (fsP d) = [(("by_seal" : Str), V.ref d), ("beneath", .ref b)] := by
  show (if ("by_seal" : Str) = "beneath" then _ else (("by_seal" : Str), V.ref d) :: putF "beneath" (.ref b) []) = _
  rw [if_neg (by decide +kernel)]
  rfl
theorem put_not {d b e : Addr} : putF "noted" (.ref e) [(("by_seal" : Str), V.ref d), ("beneath", .ref b)] = fsR d b e := by
  show (if ("by_seal" : Str) = "noted" then _ else (("by_seal" : Str), V.ref d) :: (if ("beneath" : Str) = "noted" then _ else (("beneath" : Str), V.ref b) :: putF "noted" (.ref e) [])) = _
  rw [if_neg (by decide +kernel), if_neg (by decide +kernel)]
  rfl
theorem ok_Ri (T : Txt K mg A) : Okf P w K mg base CX0 2 A.fRi ["self", "keeper"] (spRi K A) := by
  obtain ⟨fd, F, b⟩ := T.d_Reader_init
  refine ⟨fd, F.ok sc_Ri (fun vs H Q E h => ?_) (fun cdv Ar outer s H vs Q E hr h => ?_), b⟩
  · obtain ⟨a, b, dx, rfl, _⟩ := h; rfl
  · obtain ⟨p, b, dx, rfl, hp, k⟩ := h
    refine ⟨_, pss_cons (ps_expr (pe_cfunO (by rfl) T.g_Vault T.f_cV_init (ok_Vi T) hr no0 (pa_cons (pv 0) pa_nil)))
      (pss_cons (ps_fld (pv 0) (pv 1) rfl) (pss_one (ps_fld (pv 0) pe_dnewK rfl))), ?_⟩
    refine ⟨_, rfl, p, A.cR, dx, rfl, T.i_cR, T.n_cR_by_seal, hp, fun d hd => ?_⟩
    have npd : d ≠ p := (ne_of_none hp hd).symm
    refine ⟨_, rfl, _, rfl, p, A.cR, dx, _, rfl, upd_same, T.i_cR, T.n_cR_beneath, by show 1 < 1000; decide, ?_⟩
    intro e he
    have nep : e ≠ p := fun z => by rw [z, upd_same] at he; cases he
    have he1 : upd H d (.dK []) e = none := by rw [upd_ne nep, upd_ne nep] at he; exact he
    have ned : e ≠ d := fun z => by rw [z, upd_same] at he1; cases he1
    have he0 : H e = none := by rw [upd_ne ned] at he1; exact he1
    refine ⟨_, rfl, p, A.cR, dx, _, rfl, by rw [upd_ne nep.symm, upd_same], T.i_cR, T.n_cR_noted, by rw [put_ben]; show 2 < 1000; decide, ?_⟩
    refine k _ d e (fun c o q ne => ?_) ?_ ?_ ?_ ned.symm hd he0
    · rw [upd_ne ne, upd_ne (ne_of_none q he0), upd_ne ne, upd_ne ne, upd_ne (ne_of_none q hd)]; exact q
    · rw [upd_same, put_ben, put_not]
    · rw [upd_ne npd, upd_ne ned.symm, upd_ne npd, upd_ne npd, upd_same]
    · rw [upd_ne nep, upd_same]
/-- Keeper() -/
theorem make_keeper (T : Txt K mg A) {σ : L2.St} {H : Hp} {Q : VK} (k : ∀ H' x d, Same H H' → H x = none → H d = none → PlainAt A.cK H' x d [] → Q (.ref x) H') : tMake A.cK (spVi K) [] E0 tNil σ H Q := by
  intro x dx hx hdx ne
  refine ⟨x, A.cK, dx, rfl, T.i_cK, T.n_cK_by_seal, upd_same, fun d hd => ⟨rfl, ?_⟩⟩
  have ndx : d ≠ x := fun z => by rw [z, upd_same] at hd; cases hd
  have hd1 : upd H dx (.own x) d = none := by rw [upd_ne ndx] at hd; exact hd
  have ndd : d ≠ dx := fun z => by rw [z, upd_same] at hd1; cases hd1
  have hd0 : H d = none := by rw [upd_ne ndd] at hd1; exact hd1
  refine k _ x d (fun b o e => ?_) hx hd0 ⟨dx, upd_same, [], by rw [upd_ne ndx, upd_same], .nil⟩
  rw [upd_ne (ne_of_none e hx), upd_ne (ne_of_none e hd0), upd_ne (ne_of_none e hx), upd_ne (ne_of_none e hdx)]
  exact e
/-- Reader(keeper) -/
theorem make_reader (T : Txt K mg A) {σ : L2.St} {H : Hp} {Q : VK} {ta : TA} {b bd : Addr} {m : M} (hb : PlainAt A.cK H b bd m) (ht : ∀ Q', Q' [V.ref b] H → ta σ H Q')
    (k : ∀ H' x d e, Same H H' → H x = none → H d = none → H e = none → Vat A .reader H' x [d, e] (readS m) → Q (.ref x) H') : tMake A.cR (spRi K A) [] E0 ta σ H Q := by
  refine ht _ fun x dx hx hdx ne => ?_
  refine ⟨x, b, dx, rfl, upd_same, fun H' d e keep h1 h2 h3 nde hd he => ⟨rfl, ?_⟩⟩
  have free : ∀ {c : Addr}, upd (upd H dx (.own x)) x (.ins A.cR dx []) c = none → H c = none := fun {c} hc => by
    have n1 : c ≠ x := fun z => by rw [z, upd_same] at hc; cases hc
    have hc1 : upd H dx (.own x) c = none := by rw [upd_ne n1] at hc; exact hc
    have n2 : c ≠ dx := fun z => by rw [z, upd_same] at hc1; cases hc1
    rw [upd_ne n2] at hc1; exact hc1
  have sm : Same H H' := fun c o q => keep c o (by rw [upd_ne (ne_of_none q hx), upd_ne (ne_of_none q hdx)]; exact q) (ne_of_none q hx)
  have hdb : ∃ o, H bd = some o := by
    obtain ⟨_, _, kvs, q, _⟩ := hb
    exact ⟨_, q⟩
  obtain ⟨o, hbd⟩ := hdb
  exact k H' x d e sm hx (free hd) (free he) ⟨d, e, rfl, dx, b, bd, m, h1, ⟨[], h2, .nil⟩, ⟨[], h3, .nil⟩, rfl, hb.nl (.same sm), nde, ne_of_none hbd (free hd), ne_of_none hbd (free he)⟩
theorem sc_Rl : FnScope ["self", "new", "number"] ["self", "new"] (defScope (inClass (top 29) 1)) := ⟨rfl, rfl, rfl, by decide +kernel, rfl, by decide +kernel, by decide +kernel⟩
theorem ok_Rl (T : Txt K mg A) : Okf P w K mg base (L2.CX P w) 8 A.fRl ["self", "new"] (spLay A .reader) := by
  obtain ⟨fd, F, b⟩ := T.d_Reader_lay
  refine ⟨fd, F.okX sc_Rl (fun vs H Q E h => ?_) (fun cdv Ar outer s H vs Q E hr h => ?_), b⟩
  · obtain ⟨a, fp, s, v, t, rfl, _⟩ := h; rfl
  · obtain ⟨a, fp, s, v, t, rfl, hv, sok, hlen, ht, hok, kq, ke⟩ := h
    refine ⟨_, pss_cons (ps_set (i := 2) sc_Rl.nd rfl (.inl rfl) (pe_callO (ok_seal T) hr (by rfl) T.g_seal T.d_seal.kp no0 (pa_cons (pv 1) pa_nil)))
      (pss_cons (ps_if (PW.pt (pw_and (pt_val (pe_methO (pe_fld (pv 0) rfl) T.i_cK T.m_cK_has (ok_Vh T) hr no0 (pa_cons (pv 2) pa_nil))) (pw_and1 (pt_cmpR (op_neD hr.units) (pe_methO (pe_fld (pv 0) rfl) T.i_cK T.m_cK_thing (ok_Vt T) hr noX (pa_cons (pv 2) pa_nil)) (pv 1) (nomark _)))))
        (pss_one (ps_raise rfl (takes_of rfl rfl rfl rfl) (pmk_oexO T.oex T.cl_init T.cl_ty (ok_CLi T) hr pass0 (by rfl) T.g_Clash (pa_cons (pe_methO (pe_fld (pv 0) rfl) T.i_cK T.m_cK_thing (ok_Vt T) hr noX (pa_cons (pv 2) pa_nil)) (pa_cons (pv 1) pa_nil))))) pss_nil)
      (pss_one (ps_ret (pe_cfunO (by rfl) T.g_Vault T.f_cV_lay (ok_Vl T) hr (up (takes_of rfl rfl rfl rfl)) (pa_cons (pv 0) (pa_cons (pv 1) pa_nil)))))), ?_⟩
    refine ⟨_, rfl, v, t, rfl, ht, hok, fun H1 sm => ?_⟩
    have ht1 := ht.keep (Same.tk sm)
    obtain ⟨d, e, rfl, dx, bb, bd, m, hR, hown, hnot, hben, hpl, n1, n2, n3⟩ := hv.same sm
    obtain ⟨bx, hbi, kvs, hbd, mv⟩ := hpl
    have ob : OwnAt K H1 bb bd m := plain_own (T := T) (.inl rfl) ⟨bx, hbi, kvs, hbd, mv⟩
    have mok := sok.ben m hben
    have see : ∀ n, s.bget n = M.get m n := fun n => by unfold VS.bget; rw [hben]; rfl
    refine ⟨_, rfl, a, A.cR, dx, _, _, rfl, hR, T.i_cR, T.n_cR_beneath, lookR_ben, bb, bx, _, rfl, hbi, lookP_no (by decide +kernel), _, rfl, bb, bd, m, _, rfl, ob, _, rfl, ?_⟩
    have ow : OwnAt K H1 a d s.own := ⟨⟨A.cR, dx, _, hR, lookR_own, T.i_cR, T.n_cR_by_seal⟩, hown⟩
    have fitV : ∀ H', Fit [d] H1 H' → DM H' d (s.own.put (sealOf t) t) → Vat A .reader H' a [d, e] (s.lays [t]) := fun H' f dm =>
      ⟨d, e, rfl, dx, bb, bd, m, f _ _ hR (.inr rfl), dm, hnot.keep f.tk fun o q => f _ _ q (.inl (by simpa using n1.symm)), hben, PlainAt.fit ⟨bx, hbi, kvs, hbd, mv⟩ f (by simpa using n2), n1, n2, n3⟩
    have fin : (∀ u, M.get m (sealOf t) = some u → u = t) → spVl K A [.ref a, v] H1 Q E := fun hm => by
      refine ⟨a, d, s.own, v, t, rfl, ow, sok.own, hlen, ht1, hok, fun hu H' f dm => ?_, fun u e2 ne H' dd s2 ca => ?_⟩
      · refine kq (LayOK_one.mpr fun u q => ?_) H' ((Fit.same sm).trans (f.mono fun z hz => by rw [List.mem_singleton.mp hz]; simp)) (fitV H' f dm)
        rcases q with q | q
        · rw [see] at q
          exact hm u q
        · exact hu u q
      · exact ke (fun z => ne (LayOK_one.mp z u (.inr e2))) H' dd (Fit.same (Same.trans sm s2)) ca
    cases e1 : M.get m (sealOf t) with
    | some u =>
      obtain ⟨su, ou⟩ := mok.at e1
      refine iteT ?_
      refine ⟨_, rfl, a, A.cR, dx, _, _, rfl, hR, T.i_cR, T.n_cR_beneath, lookR_ben, bb, bx, _, rfl, hbi, lookP_no (by decide +kernel), _, rfl, bb, bd, m, _, rfl, ob, fun t' x e2 hx => ?_, fun e2 => by rw [e1] at e2; cases e2⟩
      rw [e1] at e2; cases e2
      refine ⟨_, rfl, u.py, t.py, hx.dp, ht1.dp, shaped_of ou (by decide), shaped_of hok (by decide), _, rfl, ?_⟩
      rw [eqv_dec]
      by_cases c : u = t
      · rw [decide_eq_true c]
        refine iteF ⟨_, rfl, _, rfl, fin fun u' e2 => ?_⟩
        rw [e1] at e2
        injection e2 with e2
        rw [← e2]
        exact c
      · rw [decide_eq_false c]
        refine iteT ⟨_, rfl, a, A.cR, dx, _, _, rfl, hR, T.i_cR, T.n_cR_beneath, lookR_ben, bb, bx, _, rfl, hbi, lookP_no (by decide +kernel), _, rfl, bb, bd, m, _, rfl, ob, fun t' x e2 hx => ?_, fun e2 => by rw [e1] at e2; cases e2⟩
        rw [e1] at e2; cases e2
        refine ⟨_, rfl, by simp, fun ea he => ?_⟩
        refine ⟨ea, x, v, rfl, upd_same, fun dd hdd ne => ⟨rfl, dd, _, by rw [upd_ne (Ne.symm ne), upd_same], upd_same, by rw [upd_ne ne] at hdd; exact hdd, ?_⟩⟩
        rw [upd_ne ne] at hdd
        obtain ⟨q1, q2⟩ := clash_made (A := A) he hdd ne hx ht1 ou hok c su
        exact ke (fun z => c (LayOK_one.mp z u (.inl (by rw [see]; exact e1)))) _ _ (Fit.same (Same.trans sm q1)) q2
    | none => exact iteF ⟨_, rfl, _, rfl, fin fun u' e2 => by rw [e1] at e2; cases e2⟩
theorem sc_Rt : FnScope ["self", "number", "found"] ["self", "number"] (defScope (inClass (top 29) 2)) := ⟨rfl, rfl, rfl, by decide +kernel, rfl, by decide +kernel, by decide +kernel⟩
theorem ok_Rt (T : Txt K mg A) : Okf P w K mg base (L2.CX P w) 3 A.fRt ["self", "number"] (spThing A .reader) := by
  obtain ⟨fd, F, b⟩ := T.d_Reader_thing
  refine ⟨fd, F.okX sc_Rt (fun vs H Q E h => ?_) (fun cdv Ar outer s H vs Q E hr h => ?_), b⟩
  · obtain ⟨a, fp, s, n, rfl, _⟩ := h; rfl
  · obtain ⟨a, fp, s, n, rfl, hv, sok, hlen, kq, ke⟩ := h
    refine ⟨_, pss_cons (ps_if (pt_val (pe_methO (pv 0) T.i_cR T.m_cR_has (ok_Vh T) hr no0 (pa_cons (pv 1) pa_nil)))
        (pss_one (ps_ret (pe_cfunO (by rfl) T.g_Vault T.f_cV_thing (ok_Vt T) hr noX (pa_cons (pv 0) (pa_cons (pv 1) pa_nil))))) pss_nil)
      (pss_cons (ps_set (i := 2) sc_Rt.nd rfl (.inl rfl) (pe_methO (pe_fld (pv 0) rfl) T.i_cK T.m_cK_thing (ok_Vt T) hr (up (takes_of rfl rfl rfl rfl)) (pa_cons (pv 1) pa_nil)))
      (pss_cons (ps_dput (hu_of hr) (pe_fld (pv 0) rfl) (pv 1) (pv 2) rfl)
      (pss_one (ps_ret (pv 2))))), ?_⟩
    obtain ⟨d, e, rfl, dx, bb, bd, m, hR, hown, hnot, hben, hpl, n1, n2, n3⟩ := id hv
    obtain ⟨bx, hbi, kvs, hbd, mv⟩ := hpl
    have ob : OwnAt K H bb bd m := plain_own (T := T) (.inl rfl) ⟨bx, hbi, kvs, hbd, mv⟩
    have ow : OwnAt K H a d s.own := ⟨⟨A.cR, dx, _, hR, lookR_own, T.i_cR, T.n_cR_by_seal⟩, hown⟩
    have see : ∀ n, s.bget n = M.get m n := fun n => by unfold VS.bget; rw [hben]; rfl
    refine ⟨_, rfl, a, dx, _, rfl, hR, lookR_no (by decide +kernel) (by decide +kernel) (by decide +kernel), _, rfl, a, d, s.own, n, rfl, ow, _, rfl, ?_⟩
    cases e1 : M.get s.own n with
    | some u =>
      refine iteT ⟨_, rfl, _, rfl, a, d, s.own, n, rfl, ow, fun t v e2 ht => ?_, fun e2 => by rw [e1] at e2; cases e2⟩
      rw [e1] at e2
      cases e2
      have sl := (sok.own.at e1).1
      refine kq u (by unfold VS.see; rw [e1]; rfl) H v (Fit.refl _ _) ?_ ht
      have er : s.rd u = s := by unfold VS.rd; rw [sl, e1]; rfl
      rw [er]
      exact hv
    | none =>
      refine iteF ⟨_, rfl, a, A.cR, dx, _, _, rfl, hR, T.i_cR, T.n_cR_beneath, lookR_ben, bb, bx, _, rfl, hbi, lookP_no (by decide +kernel), _, rfl, bb, bd, m, n, rfl, ob, fun t v e2 ht => ?_, fun e2 => ?_⟩
      · obtain ⟨kvn, hn, mn⟩ := hnot
        have sl := ((sok.ben m hben).at e2).1
        refine ⟨_, rfl, _, rfl, a, A.cR, dx, _, _, rfl, hR, T.i_cR, T.n_cR_noted, lookR_not, _, rfl, e, _, rfl, DPut.k (k := Sum.inl n) (v := v) hn (Nat.lt_of_le_of_lt (show kvn.length ≤ 10 ^ 6 by rw [mn.len]; exact hlen) big2), _, rfl, ?_⟩
        have tk : Tk H (upd H e (.dK (putK kvn (Sum.inl n) v))) := fun b xs q => by rw [upd_ne (ne_of q hn (by intro z; cases z))]; exact q
        have f : Fit [d, e] H (upd H e (.dK (putK kvn (Sum.inl n) v))) := (Fit.refl _ _).dict hn (by simp)
        have er : s.rd t = { s with noted := s.noted.put n t } := by unfold VS.rd; rw [sl, e1, hben]; rfl
        refine kq t (by unfold VS.see; rw [e1, see, e2]; rfl) _ v f ?_ (ht.keep tk)
        rw [er]
        exact ⟨d, e, rfl, dx, bb, bd, m, f _ _ hR (.inr rfl), hown.keep tk fun o q => by rw [upd_ne n1]; exact q, ⟨_, upd_same, (mn.put n ht).keep tk⟩, hben,
          ⟨bx, f _ _ hbi (.inr rfl), kvs, by rw [upd_ne n3]; exact hbd, mv.keep tk⟩, n1, n2, n3⟩
      · exact ke (by unfold VS.see; rw [e1, see, e2]; rfl) H (Fit.refl _ _)

/-! ### whatever the vault -/
theorem ok_thing (T : Txt K mg A) (kd : Kd) : Okf P w K mg base (L2.CX P w) 3 (kd.fT A) ["self", "number"] (spThing A kd) := by
  cases kd with
  | keeper =>
    refine ((ok_Vt T).mono (by decide)).imp fun vs H Q E h => ?_
    obtain ⟨a, fp, s, n, rfl, ⟨d, rfl, hb, hn, hp⟩, sok, hl, k1, k2⟩ := h
    exact plain_thing T (.inl rfl) hb hp (fun t e H' v f p x => k1 t e H' v f ⟨d, rfl, by rw [rd_ben]; exact hb, by rw [plain_rd hb]; exact hn, p⟩ x) k2
  | witness =>
    refine ((ok_Vt T).mono (by decide)).imp fun vs H Q E h => ?_
    obtain ⟨a, fp, s, n, rfl, ⟨d, rfl, hb, hn, hp⟩, sok, hl, k1, k2⟩ := h
    exact plain_thing T (.inr rfl) hb hp (fun t e H' v f p x => k1 t e H' v f ⟨d, rfl, by rw [rd_ben]; exact hb, by rw [plain_rd hb]; exact hn, p⟩ x) k2
  | reader => exact ok_Rt T
theorem ok_lay (T : Txt K mg A) (kd : Kd) : Okf P w K mg base (L2.CX P w) 8 (kd.fL A) ["self", "new"] (spLay A kd) := by
  cases kd with
  | keeper =>
    refine ((ok_Vl T).mono (by decide)).imp fun vs H Q E h => ?_
    obtain ⟨a, fp, s, v, t, rfl, ⟨d, rfl, hb, hn, hp⟩, sok, hl, ht, ot, k1, k2⟩ := h
    exact plain_lay T (.inl rfl) hb sok hp hl ht ot (fun l H' f p => k1 l H' f ⟨d, rfl, hb, hn, p⟩) k2
  | witness =>
    refine ((ok_Vl T).mono (by decide)).imp fun vs H Q E h => ?_
    obtain ⟨a, fp, s, v, t, rfl, ⟨d, rfl, hb, hn, hp⟩, sok, hl, ht, ot, k1, k2⟩ := h
    exact plain_lay T (.inr rfl) hb sok hp hl ht ot (fun l H' f p => k1 l H' f ⟨d, rfl, hb, hn, p⟩) k2
  | reader => exact ok_Rl T
theorem kd_cls (T : Txt K mg A) (kd : Kd) : Cls K (kd.cls A) := by
  cases kd with
  | keeper => exact T.i_cK
  | witness => exact T.i_cW
  | reader => exact T.i_cR
theorem kd_thing (T : Txt K mg A) (kd : Kd) : Meth K (kd.cls A) "thing" (kd.fT A) := by
  cases kd with
  | keeper => exact T.m_cK_thing
  | witness => exact T.m_cW_thing
  | reader => exact T.m_cR_thing
theorem kd_lay (T : Txt K mg A) (kd : Kd) : Meth K (kd.cls A) "lay" (kd.fL A) := by
  cases kd with
  | keeper => exact T.m_cK_lay
  | witness => exact T.m_cW_lay
  | reader => exact T.m_cR_lay
end
end PV
/-! W3c: Keeper.things, Reader.paper, Witness.__init__. -/
namespace PV
open PySem PySem.Spec L2
section
variable {P : Program} {w : World} {K : PySem.W.Frag} {mg : Str → Option Value} {base : Heap} {A : Ad}
def spKt (A : Ad) : Sp := fun vs H Q _ => ∃ a d m, vs = [.ref a] ∧ PlainAt A.cK H a d m ∧ Mok m ∧ m.length ≤ 1000000 ∧
  ∀ H' p xs, Same H H' → H p = none → H' p = some (.lst xs) → ThA H' (things m) xs → Q (.ref p) H'
def spRp (A : Ad) : Sp := fun vs H Q _ => ∃ a fp s, vs = [.ref a] ∧ Vat A .reader H a fp s ∧ s.Ok ∧ s.noted.length ≤ 1000000 ∧
  ∀ H' p xs, Same H H' → H p = none → H' p = some (.lst xs) → ThA H' (things s.noted) xs → Q (.ref p) H'
theorem things_get {m : M} (hm : Mok m) {ys : List Int} (e : ys = sortI (m.map (·.1))) {i : Nat} {n : Int} (h : ys[i]? = some n) : ∃ t, M.get m n = some t ∧ (things m)[i]? = some t := by
  have hn : n ∈ m.map (·.1) := (sortI_perm _).mem_iff.mp (by rw [← e]; exact List.mem_of_getElem? h)
  obtain ⟨t, ht, _, _⟩ := key_get hm hn
  refine ⟨t, ht, ?_⟩
  unfold things
  rw [List.getElem?_map, ← e, h, Option.map_some, ht]
  rfl
theorem take_succ_of {α : Type} {l : List α} {i : Nat} {t : α} (h : l[i]? = some t) : l.take (i + 1) = l.take i ++ [t] := by rw [List.take_add_one, h]; rfl
theorem sc_Kt : FnScope ["self", "number"] ["self"] (defScope (inClass (top 28) 0)) := ⟨rfl, rfl, rfl, by decide +kernel, rfl, by decide +kernel, by decide +kernel⟩
theorem ok_Kt (T : Txt K mg A) : Okf P w K mg base CX0 1 A.fKt ["self"] (spKt A) := by
  obtain ⟨fd, F, b⟩ := T.d_Keeper_things
  refine ⟨fd, F.ok sc_Kt (fun vs H Q E h => ?_) (fun cdv Ar outer s H vs Q E hr h => ?_), b⟩
  · obtain ⟨a, d, m, rfl, _⟩ := h; rfl
  · obtain ⟨a, d, m, rfl, ⟨dx, ha, kvs, hd, mv⟩, mok, hlen, k⟩ := h
    refine ⟨_, pss_one (ps_ret (pe_lc (own := [("number", 1)]) (g := gName 1) (tt := tYes) (te := tDGet (tFld K (tVar 0) "by_seal") (tVar 1)) rfl sc_Kt.nd (pi_list (pe_callB (call_sortedN rfl) (by rfl) T.b_sorted bt_sorted (pa_cons (pe_fld (pv 0) rfl) pa_nil)))
      (blkOk_by (N := ["self", "number"]) (sc := defScope (inClass (top 28) 0)) (by decide +kernel)) (fun _ _ _ _ _ => pg_name (i := 1) sc_Kt.nd rfl (Or.inl rfl)) (fun _ _ _ _ _ => pts_nil)
      (fun _ _ _ _ _ => pe_dget (hu_of hr) (pe_fld (pv 0) rfl) (pv 1) (fun _ _ => rfl)))), ?_⟩
    refine ⟨_, rfl, a, A.cK, dx, _, _, rfl, ha, T.i_cK, T.n_cK_by_seal, lookP, d, kvs, m.map (·.1), rfl, hd, mv.keys, fun ys p perm rising hp => ?_⟩
    have ey := sortI_eq perm rising
    refine ⟨p, rfl, ⟨_, SqL.of upd_same⟩, fun D hD => ?_⟩
    have hD0 : H D = none := (Same.fresh hp).free hD
    have pD : p ≠ D := fun z => by rw [z, upd_same] at hD; cases hD
    have s1 : Same H (upd (upd H p (.lst (ys.map V.int))) D (.lst [])) := Same.own (Same.fresh hp) hD0
    refine lc_list (K := K) (a := p) (xs := ys.map V.int) (fun i H' => Same H H' ∧ H' p = some (.lst (ys.map V.int)) ∧ ∃ acc, H' D = some (.lst acc) ∧ ThA H' ((things m).take i) acc)
      ⟨s1, by rw [upd_ne pD, upd_same], [], upd_same, rfl⟩ (fun i H' _ ⟨_, q, _⟩ => SqL.of q) ?_ ?_
    · rintro i x H' hi ⟨sm, hpl, acc, hacc, hth⟩
      rw [List.getElem?_map] at hi
      obtain ⟨n, hn, rfl⟩ := Option.map_eq_some_iff.mp hi
      obtain ⟨t, e1, e2⟩ := things_get mok ey hn
      have mv' := mv.keep (Same.tk sm)
      rcases mv'.get n with ⟨v, t', e3, e4, hv⟩ | ⟨_, e4⟩
      · rw [e1] at e4
        cases e4
        refine ⟨rfl, ?_⟩
        simp only [tYes, ↓reduceIte]
        refine ⟨_, rfl, a, A.cK, dx, _, _, rfl, sm _ _ ha, T.i_cK, T.n_cK_by_seal, lookP, _, rfl, d, v, rfl, by rw [← e3]; exact DGet.k (k := Sum.inl n) (sm _ _ hd), acc, hacc, ?_, ?_⟩
        · refine Nat.lt_of_le_of_lt ?_ big2
          rw [hth.len, List.length_take, things_len]
          omega
        · have nl : NL H' (upd H' D (.lst (acc ++ [v]))) := NL.lst hacc
          refine ⟨Same.own sm hD0, by rw [upd_ne pD]; exact hpl, _, upd_same, ?_⟩
          rw [take_succ_of e2]
          exact (hth.keep nl.tk).snoc (hv.keep nl.tk)
      · rw [e1] at e4; cases e4
    · rintro H' ⟨sm, _, acc, hacc, hth⟩
      refine k H' D acc sm hD0 hacc ?_
      rw [List.length_map, ey, (sortI_perm _).length_eq, List.length_map, ← things_len, List.take_length] at hth
      exact hth
theorem sc_Rp : FnScope ["self", "number"] ["self"] (defScope (inClass (top 29) 3)) := ⟨rfl, rfl, rfl, by decide +kernel, rfl, by decide +kernel, by decide +kernel⟩
theorem ok_Rp (T : Txt K mg A) : Okf P w K mg base CX0 1 A.fRp ["self"] (spRp A) := by
  obtain ⟨fd, F, b⟩ := T.d_Reader_paper
  refine ⟨fd, F.ok sc_Rp (fun vs H Q E h => ?_) (fun cdv Ar outer s H vs Q E hr h => ?_), b⟩
  · obtain ⟨a, fp, s, rfl, _⟩ := h; rfl
  · obtain ⟨a, fp, s, rfl, ⟨d0, d, rfl, dx, bb, bd, m0, ha, _, ⟨kvs, hd, mv⟩, _⟩, sok, hlen, k⟩ := h
    have mok := sok.noted
    refine ⟨_, pss_one (ps_ret (pe_lc (own := [("number", 1)]) (g := gName 1) (tt := tYes) (te := tDGet (tFld K (tVar 0) "noted") (tVar 1)) rfl sc_Rp.nd (pi_list (pe_callB (call_sortedN rfl) (by rfl) T.b_sorted bt_sorted (pa_cons (pe_fld (pv 0) rfl) pa_nil)))
      (blkOk_by (N := ["self", "number"]) (sc := defScope (inClass (top 29) 3)) (by decide +kernel)) (fun _ _ _ _ _ => pg_name (i := 1) sc_Rp.nd rfl (Or.inl rfl)) (fun _ _ _ _ _ => pts_nil)
      (fun _ _ _ _ _ => pe_dget (hu_of hr) (pe_fld (pv 0) rfl) (pv 1) (fun _ _ => rfl)))), ?_⟩
    refine ⟨_, rfl, a, A.cR, dx, _, _, rfl, ha, T.i_cR, T.n_cR_noted, lookR_not, d, kvs, s.noted.map (·.1), rfl, hd, mv.keys, fun ys p perm rising hp => ?_⟩
    have ey := sortI_eq perm rising
    refine ⟨p, rfl, ⟨_, SqL.of upd_same⟩, fun D hD => ?_⟩
    have hD0 : H D = none := (Same.fresh hp).free hD
    have pD : p ≠ D := fun z => by rw [z, upd_same] at hD; cases hD
    have s1 : Same H (upd (upd H p (.lst (ys.map V.int))) D (.lst [])) := Same.own (Same.fresh hp) hD0
    refine lc_list (K := K) (a := p) (xs := ys.map V.int) (fun i H' => Same H H' ∧ H' p = some (.lst (ys.map V.int)) ∧ ∃ acc, H' D = some (.lst acc) ∧ ThA H' ((things s.noted).take i) acc)
      ⟨s1, by rw [upd_ne pD, upd_same], [], upd_same, rfl⟩ (fun i H' _ ⟨_, q, _⟩ => SqL.of q) ?_ ?_
    · rintro i x H' hi ⟨sm, hpl, acc, hacc, hth⟩
      rw [List.getElem?_map] at hi
      obtain ⟨n, hn, rfl⟩ := Option.map_eq_some_iff.mp hi
      obtain ⟨t, e1, e2⟩ := things_get mok ey hn
      have mv' := mv.keep (Same.tk sm)
      rcases mv'.get n with ⟨v, t', e3, e4, hv⟩ | ⟨_, e4⟩
      · rw [e1] at e4
        cases e4
        refine ⟨rfl, ?_⟩
        simp only [tYes, ↓reduceIte]
        refine ⟨_, rfl, a, A.cR, dx, _, _, rfl, sm _ _ ha, T.i_cR, T.n_cR_noted, lookR_not, _, rfl, d, v, rfl, by rw [← e3]; exact DGet.k (k := Sum.inl n) (sm _ _ hd), acc, hacc, ?_, ?_⟩
        · refine Nat.lt_of_le_of_lt ?_ big2
          rw [hth.len, List.length_take, things_len]
          omega
        · have nl : NL H' (upd H' D (.lst (acc ++ [v]))) := NL.lst hacc
          refine ⟨Same.own sm hD0, by rw [upd_ne pD]; exact hpl, _, upd_same, ?_⟩
          rw [take_succ_of e2]
          exact (hth.keep nl.tk).snoc (hv.keep nl.tk)
      · rw [e1] at e4; cases e4
    · rintro H' ⟨sm, _, acc, hacc, hth⟩
      refine k H' D acc sm hD0 hacc ?_
      rw [List.length_map, ey, (sortI_perm _).length_eq, List.length_map, ← things_len, List.take_length] at hth
      exact hth
/-! ### Witness -/
def spWi (A : Ad) : Sp := fun vs H Q _ => ∃ p l dx ts xs, vs = [.ref p, .ref l] ∧ H p = some (.ins A.cW dx []) ∧ H l = some (.lst xs) ∧ ThA H ts xs ∧ (∀ t ∈ ts, t.ok) ∧ (ts.map sealOf).Nodup ∧ ts.length ≤ 1000000 ∧
  ∀ H' d, (∀ c o, H c = some o → c ≠ p → H' c = some o) → H d = none → H' p = some (.ins A.cW dx (fsP d)) → DM H' d (layAll [] ts) → Q .non H'
theorem sc_Wi : FnScope ["self", "some", "new"] ["self", "some"] (defScope (inClass (top 30) 0)) := ⟨rfl, rfl, rfl, by decide +kernel, rfl, by decide +kernel, by decide +kernel⟩
theorem layAll_take {m : M} {l : List PV.T} {i : Nat} {t : PV.T} (h : l[i]? = some t) : layAll m (l.take (i + 1)) = (layAll m (l.take i)).put (sealOf t) t := by
  rw [take_succ_of h, layAll_app]
  rfl
theorem ok_Wi (T : Txt K mg A) : Okf P w K mg base CX0 8 A.fWi ["self", "some"] (spWi A) := by
  obtain ⟨fd, F, b⟩ := T.d_Witness_init
  refine ⟨fd, F.ok sc_Wi (fun vs H Q E h => ?_) (fun cdv Ar outer s H vs Q E hr h => ?_), b⟩
  · obtain ⟨p, l, dx, ts, xs, rfl, _⟩ := h; rfl
  · obtain ⟨p, l, dx, ts, xs, rfl, hp, hl, hth, tok, tnd, hlen, k⟩ := h
    refine ⟨_, pss_cons (ps_expr (pe_cfunO (by rfl) T.g_Vault T.f_cV_init (ok_Vi T) hr no0 (pa_cons (pv 0) pa_nil)))
      (pss_one (ps_for PassesOwn.never rfl (pi_list (pv 1)) (pg_name (i := 2) sc_Wi.nd rfl (.inl rfl))
        (pss_cons (ps_if (pt_not (pt_val (pe_callO (ok_is_thing T) hr (by rfl) T.g_is_thing T.d_is_thing.kp no0 (pa_cons (pv 2) pa_nil)))) pss_never pss_nil)
        (pss_one (ps_expr (pe_methO (pv 0) T.i_cW T.m_cW_lay (ok_Vl T) hr noX (pa_cons (pv 2) pa_nil))))))), ?_⟩
    refine ⟨_, rfl, p, A.cW, dx, rfl, T.i_cW, T.n_cW_by_seal, hp, fun d hd => ?_⟩
    have npd : d ≠ p := (ne_of_none hp hd).symm
    have nlp : l ≠ p := ne_of hl hp (by intro z; cases z)
    have s0 : ∀ c o, H c = some o → c ≠ p → (upd (upd H d (.dK [])) p (.ins A.cW dx (fsP d))) c = some o := fun c o q ne => by
      rw [upd_ne ne, upd_ne (ne_of_none q hd)]; exact q
    have con := con_of_nd tnd
    have tks : ∀ {H' : Hp}, (∀ c o, H c = some o → c ≠ p → H' c = some o) → Tk H H' := fun {H'} q b xs e => q b _ e (ne_of e hp (by intro z; cases z))
    refine ⟨_, rfl, l, rfl, ⟨_, SqL.of (s0 _ _ hl nlp)⟩, for_list (K := K) (a := l) (xs := xs) (fun i σ H' => ∃ c, σ = [some (.ref p), some (.ref l), c] ∧ (∀ c o, H c = some o → c ≠ p → H' c = some o) ∧ H' p = some (.ins A.cW dx (fsP d)) ∧ DM H' d (layAll [] (ts.take i)))
      ⟨none, rfl, s0, upd_same, [], by rw [upd_ne npd, upd_same], .nil⟩ (fun i σ H' _ ⟨_, _, q, _⟩ => SqL.of (q _ _ hl nlp)) ?_ ?_⟩
    · rintro i x σ H' hi ⟨c, rfl, keep, hp', dm⟩
      obtain ⟨t, hti, htx⟩ := hth.get hi
      have tm := List.mem_of_getElem? hti
      have htx' := htx.keep (tks keep)
      refine ⟨_, rfl, x, t, rfl, htx', tok t tm, fun H2 s2 => ⟨_, rfl, iteF ?_⟩⟩
      have pl : PlainAt A.cW H2 p d (layAll [] (ts.take i)) := ⟨dx, s2 _ _ hp', dm.nl (.same s2)⟩
      refine ⟨_, rfl, p, dx, _, rfl, s2 _ _ hp', lookP_no (by decide +kernel), _, rfl, p, d, _, x, t, rfl, plain_own (T := T) (.inr rfl) pl, layAll_ok .nil fun y hy => tok y (List.mem_of_mem_take hy), ?_, htx'.keep (Same.tk s2), tok t tm, fun _ H3 f3 dm3 => ?_, fun u e ne => ?_⟩
      · have q := layAll_len (ts.take i) []
        rw [List.length_take] at q
        have q0 : ([] : M).length = 0 := rfl
        omega
      · refine ⟨_, rfl, fun c o q ne => ?_, f3 _ _ (s2 _ _ hp') (.inr rfl), by rw [layAll_take hti]; exact dm3⟩
        exact f3 _ _ (s2 _ _ (keep c o q ne)) (.inl (by simpa using ne_of_none q hd))
      · rcases layAll_from e with ⟨q, es⟩ | q
        · exact absurd (con u (List.mem_of_mem_take q) t tm es) ne
        · cases q
    · rintro σ H' ⟨c, rfl, keep, hp', dm⟩
      rw [hth.len, List.take_length] at dm
      exact k H' d keep hd hp' dm
/-- Witness(some) -/
theorem make_witness (T : Txt K mg A) {σ : L2.St} {H : Hp} {Q : VK} {ta : TA} {l : Addr} {ts : List PV.T} {xs : List V} (hl : H l = some (.lst xs)) (hth : ThA H ts xs) (tok : ∀ t ∈ ts, t.ok) (tnd : (ts.map sealOf).Nodup) (hlen : ts.length ≤ 1000000)
    (ht : ∀ Q', Q' [V.ref l] H → ta σ H Q') (k : ∀ H' x d, Same H H' → H x = none → H d = none → Vat A .witness H' x [d] (plainS (layAll [] ts)) → Q (.ref x) H') : tMake A.cW (spWi A) [] E0 ta σ H Q := by
  refine ht _ fun x dx hx hdx ne => ?_
  have s1 : Same H (upd (upd H dx (.own x)) x (.ins A.cW dx [])) := Same.own (Same.fresh hdx) hx
  refine ⟨x, l, dx, ts, xs, rfl, upd_same, s1 _ _ hl, hth.keep (Same.tk s1), tok, tnd, hlen, fun H' d keep hd hp dm => ⟨rfl, ?_⟩⟩
  refine k H' x d (fun c o q => keep c o (s1 c o q) (ne_of_none q hx)) hx (s1.free hd) ⟨d, rfl, rfl, rfl, dx, hp, dm⟩
end
end PV
/-! W4: is_whole, is_node, node_at, node_beneath, rank, above. -/
namespace PV
open PySem PySem.Spec L2
section
variable {P : Program} {w : World} {K : PySem.W.Frag} {mg : Str → Option Value} {base : Heap} {A : Ad}
def spWH : Sp := fun vs H Q _ => ∃ n c m, vs = [.int n, .int c, m] ∧ c ≤ n ∧ (m = .non ∨ ∃ k, m = .int k ∧ n ≤ k) ∧ Q (.bl true) H
theorem sc_WH : FnScope ["thing", "least", "most"] ["thing", "least", "most"] (defScope (top 39)) := ⟨rfl, rfl, rfl, by decide +kernel, rfl, by decide +kernel, by decide +kernel⟩
theorem ok_WH (T : Txt K mg A) : Okf P w K mg base CX0 1 A.fWH ["thing", "least", "most"] spWH := by
  obtain ⟨fd, F, b⟩ := T.d_is_whole
  refine ⟨fd, F.ok sc_WH (fun vs H Q E h => ?_) (fun cdv Ar outer s H vs Q E hr h => ?_), b⟩
  · obtain ⟨n, c, m, rfl, _⟩ := h; rfl
  · obtain ⟨n, c, m, rfl, hc, hm, k⟩ := h
    refine ⟨_, pss_cons (ps_if (PW.pt (pw_or (pt_not (pt_val (pe_isi (by rfl) T.b_isinstance (by rfl) T.b_int bt_int (pv 0)))) (pw_or (pt_val (pe_isi (by rfl) T.b_isinstance (by rfl) T.b_bool bt_bool (pv 0))) (pw_or1 (pt_cmpR op_lt (pv 0) (pv 1) (nomark _)))))) (pss_one (ps_ret pe_bl)) pss_nil)
      (pss_one (ps_ret (pe_or (pe_cmp (pc_isN (pv 2))) (pe_one (pe_cmpR op_le (pv 0) (pv 2) (nomark _)))))), ?_⟩
    have ht : Th H (.int n) (V.int n) := rfl
    refine ⟨_, rfl, _, _, _, _, _, rfl, .ty _, ht.ty, kit_ty kii, _, rfl, iteF ⟨_, rfl, _, _, _, _, _, rfl, .ty _, ht.ty, kit_ty kib, _, rfl, iteF ⟨_, rfl, _, rfl, _, _, rfl, rfl, _, rfl, ?_⟩⟩⟩
    rw [decide_eq_false (show ¬ n < c by omega)]
    refine iteF ⟨_, rfl, ?_⟩
    rcases hm with rfl | ⟨j, rfl, hj⟩
    · exact ⟨_, rfl, iteT k⟩
    · refine ⟨_, rfl, iteF ⟨_, rfl, _, rfl, _, _, rfl, rfl, ?_⟩⟩
      show Q (.bl (decide (n ≤ j))) H
      rw [decide_eq_true hj]
      exact k
theorem nt_shape {H : Hp} {k w : PV.T} {l r : Tr} {v : V} (h : Th H (nt k w l r) v) : ∃ a kv wv, v = .ref a ∧ H a = some (.tup [kv, wv, .int l.root, .int r.root, .int ((l.size + r.size + 1 : Nat) : Int)]) ∧ Th H k kv ∧ Th H w wv := by
  obtain ⟨a, xs, rfl, h1, y1, z1, rfl, h2, y2, z2, rfl, h3, y3, z3, rfl, h4, y4, z4, rfl, h5, y5, z5, rfl, h6, h7⟩ := h
  cases h4
  cases h5
  cases h6
  cases h7
  exact ⟨a, y1, y2, rfl, h1, h2, h3⟩
theorem Th.ne_non {H : Hp} {t : PV.T} {v : V} (h : Th H t v) (ht : t ≠ .non) : v ≠ .non := by
  cases t with
  | non => exact absurd rfl ht
  | int i => cases h; intro z; cases z
  | str s => cases h; intro z; cases z
  | tup l => obtain ⟨a, xs, rfl, _⟩ := h; intro z; cases z
theorem Th.mk_nt {H : Hp} {k w : PV.T} {l r : Tr} {a : Addr} {kv wv : V} {n1 n2 n3 : Int} (h : H a = some (.tup [kv, wv, .int n1, .int n2, .int n3])) (hk : Th H k kv) (hw : Th H w wv) (e1 : n1 = l.root) (e2 : n2 = r.root) (e3 : n3 = ((l.size + r.size + 1 : Nat) : Int)) : Th H (nt k w l r) (.ref a) := by
  subst e1 e2 e3
  exact ⟨a, _, rfl, h, kv, _, rfl, hk, wv, _, rfl, hw, _, _, rfl, rfl, _, _, rfl, rfl, _, _, rfl, rfl, rfl⟩
def spND : Sp := fun vs H Q _ => ∃ v k w l r, vs = [v] ∧ Th H (nt k w l r) v ∧ (Tr.nd k w l r).Ok ∧ (Tr.nd k w l r).size ≤ 300 ∧ Q (.bl true) H
theorem sc_ND : FnScope ["thing", "key", "worth", "left", "right", "count"] ["thing"] (defScope (top 40)) := ⟨rfl, rfl, rfl, by decide +kernel, rfl, by decide +kernel, by decide +kernel⟩
theorem ok_ND (T : Txt K mg A) : Okf P w K mg base CX0 2 A.fND ["thing"] spND := by
  obtain ⟨fd, F, b⟩ := T.d_is_node
  refine ⟨fd, F.ok sc_ND (fun vs H Q E h => ?_) (fun cdv Ar outer s H vs Q E hr h => ?_), b⟩
  · obtain ⟨v, k, w, l, r, rfl, _⟩ := h; rfl
  · obtain ⟨v, kk, ww, l, r, rfl, ht, ok, hs, k⟩ := h
    refine ⟨_, pss_cons (ps_if (PW.pt (pw_or (pt_not (pt_val (pe_isi (by rfl) T.b_isinstance (by rfl) T.b_tuple bt_tuple (pv 0)))) (pw_or1 (pt_cmpR op_ne (pe_callB call_len (by rfl) T.b_len bt_len (pa_cons (pv 0) pa_nil)) pe_int (nomark _))))) (pss_one (ps_ret pe_bl)) pss_nil)
      (pss_cons (ps_asg (pv 0) (pg_tup (by rfl) (pgs_cons (pg_name (i := 1) sc_ND.nd rfl (.inl rfl)) (pgs_cons (pg_name (i := 2) sc_ND.nd rfl (.inl rfl)) (pgs_cons (pg_name (i := 3) sc_ND.nd rfl (.inl rfl)) (pgs_cons (pg_name (i := 4) sc_ND.nd rfl (.inl rfl)) (pgs_cons (pg_name (i := 5) sc_ND.nd rfl (.inl rfl)) pgs_nil)))))))
      (pss_cons (ps_if (PW.pt (pw_or (pt_cmp (pc_isN (pv 1))) (pw_or1 (pt_cmp (pc_isN (pv 2)))))) (pss_one (ps_ret pe_bl)) pss_nil)
      (pss_one (ps_ret (pe_and (pe_callO (ok_WH T) hr (by rfl) T.g_is_whole T.d_is_whole.kp no0 (pa_cons (pv 3) (pa_cons pe_int (pa_cons pe_non pa_nil))))
        (pe_and (pe_callO (ok_WH T) hr (by rfl) T.g_is_whole T.d_is_whole.kp no0 (pa_cons (pv 4) (pa_cons pe_int (pa_cons pe_non pa_nil))))
        (pe_one (pe_callO (ok_WH T) hr (by rfl) T.g_is_whole T.d_is_whole.kp no0 (pa_cons (pv 5) (pa_cons pe_int (pa_cons (pe_cst (by rfl) T.c_MOST_NODES) pa_nil)))))))))))
      , ?_⟩
    have ht0 := ht
    obtain ⟨a, kv, wv, rfl, ha, hk, hw⟩ := nt_shape ht
    obtain ⟨o1, o2, o3, _, _⟩ := ok
    refine ⟨_, rfl, _, _, _, _, _, rfl, .ty _, ht0.ty, kit_ty kTT, _, rfl, iteF ⟨_, rfl, _, 5, rfl, .inr ⟨_, SqT.of ha, rfl⟩, rfl, _, rfl, ?_⟩⟩
    refine iteF ⟨_, rfl, a, _, rfl, SqT.of ha, rfl, _, _, rfl, _, _, rfl, _, _, rfl, _, _, rfl, _, _, rfl, rfl, ?_⟩
    refine ⟨_, rfl, _, rfl, ?_⟩
    rw [decide_eq_false (hk.ne_non (keyB_ne o1))]
    refine iteF ⟨_, rfl, _, rfl, ?_⟩
    rw [decide_eq_false (hw.ne_non o3)]
    refine iteF ?_
    refine ⟨_, rfl, _, _, _, rfl, root_lo l, .inl rfl, _, rfl, iteT ⟨_, rfl, _, _, _, rfl, root_lo r, .inl rfl, _, rfl, iteT ⟨_, rfl, _, _, _, rfl, ?_, .inr ⟨_, rfl, ?_⟩, k⟩⟩⟩
    · omega
    · rw [size_nd] at hs; omega
def NodeHyp (s : VS) (k w : PV.T) (l r : Tr) : Prop := s.see (Tr.nd k w l r).root = some (nt k w l r) ∨ s.see (Tr.nd k w l r).root = none
def spNA (A : Ad) (kd : Kd) : Sp := fun vs H Q E => ∃ a fp s k w l r, vs = [.ref a, .int (Tr.nd k w l r).root] ∧ Vat A kd H a fp s ∧ s.Ok ∧ s.noted.length ≤ 1000000 ∧ (Tr.nd k w l r).Ok ∧ (Tr.nd k w l r).size ≤ 300 ∧ NodeHyp s k w l r ∧
  (s.see (Tr.nd k w l r).root = some (nt k w l r) → ∀ H' v, Fit fp H H' → Vat A kd H' a fp (s.rd (nt k w l r)) → Th H' (nt k w l r) v → Q v H') ∧
  (s.see (Tr.nd k w l r).root = none → ∀ H', Fit fp H H' → E (.ref A.cNP) none H')
theorem sc_NA : FnScope ["vault", "root", "node"] ["vault", "root"] (defScope (top 41)) := ⟨rfl, rfl, rfl, by decide +kernel, rfl, by decide +kernel, by decide +kernel⟩
theorem ok_NA (T : Txt K mg A) (kd : Kd) : Okf P w K mg base (L2.CX P w) 4 A.fNA ["vault", "root"] (spNA A kd) := by
  obtain ⟨fd, F, b⟩ := T.d_node_at
  refine ⟨fd, F.okX sc_NA (fun vs H Q E h => ?_) (fun cdv Ar outer s H vs Q E hr h => ?_), b⟩
  · obtain ⟨a, fp, s, k, w, l, r, rfl, _⟩ := h; rfl
  · obtain ⟨a, fp, s, kk, ww, l, r, rfl, hv, sok, hlen, tok, hs, hyp, kq, ke⟩ := h
    refine ⟨_, pss_cons (ps_set (i := 2) sc_NA.nd rfl (.inl rfl) (pe_methO (pv 0) (kd_cls T kd) (kd_thing T kd) (ok_thing T kd) hr (up (takes_of rfl rfl rfl rfl)) (pa_cons (pv 1) pa_nil)))
      (pss_cons (ps_if (pt_not (pt_val (pe_callO (ok_ND T) hr (by rfl) T.g_is_node T.d_is_node.kp no0 (pa_cons (pv 2) pa_nil)))) pss_never pss_nil)
      (pss_one (ps_ret (pv 2)))), ?_⟩
    obtain ⟨dx, fs, hins, lk, _⟩ := hv.ins
    refine ⟨_, rfl, a, dx, fs, rfl, hins, lk, _, rfl, a, fp, s, _, rfl, hv, sok, hlen, fun t e H' v f vat th => ?_, fun e H' f => ke e H' f⟩
    rcases hyp with q | q
    · rw [e] at q
      cases q
      exact ⟨_, rfl, v, kk, ww, l, r, rfl, th, tok, hs, _, rfl, iteF ⟨_, rfl, kq e H' v f vat th⟩⟩
    · rw [e] at q; cases q
def spNB (A : Ad) (kd : Kd) : Sp := fun vs H Q E => ∃ a fp s k w l r c, vs = [.ref a, .int (Tr.nd k w l r).root, .int c] ∧ Vat A kd H a fp s ∧ s.Ok ∧ s.noted.length ≤ 1000000 ∧ (Tr.nd k w l r).Ok ∧ (Tr.nd k w l r).size ≤ 300 ∧ ((Tr.nd k w l r).size : Int) < c ∧ NodeHyp s k w l r ∧
  (s.see (Tr.nd k w l r).root = some (nt k w l r) → ∀ H' p kv wv, Fit fp H H' → Vat A kd H' a fp (s.rd (nt k w l r)) → H' p = some (.tup [kv, wv, .int l.root, .int r.root, .int ((l.size + r.size + 1 : Nat) : Int)]) → Th H' k kv → Th H' w wv → Q (.ref p) H') ∧
  (s.see (Tr.nd k w l r).root = none → ∀ H', Fit fp H H' → E (.ref A.cNP) none H')
theorem sc_NB : FnScope ["vault", "root", "count", "node"] ["vault", "root", "count"] (defScope (top 42)) := ⟨rfl, rfl, rfl, by decide +kernel, rfl, by decide +kernel, by decide +kernel⟩
theorem ok_NB (T : Txt K mg A) (kd : Kd) : Okf P w K mg base (L2.CX P w) 5 A.fNB ["vault", "root", "count"] (spNB A kd) := by
  obtain ⟨fd, F, b⟩ := T.d_node_beneath
  refine ⟨fd, F.okX sc_NB (fun vs H Q E h => ?_) (fun cdv Ar outer s H vs Q E hr h => ?_), b⟩
  · obtain ⟨a, fp, s, k, w, l, r, c, rfl, _⟩ := h; rfl
  · obtain ⟨a, fp, s, kk, ww, l, r, c, rfl, hv, sok, hlen, tok, hs, hc, hyp, kq, ke⟩ := h
    refine ⟨_, pss_cons (ps_set (i := 3) sc_NB.nd rfl (.inl rfl) (pe_callO (ok_NA T kd) hr (by rfl) T.g_node_at T.d_node_at.kp (up (takes_of rfl rfl rfl rfl)) (pa_cons (pv 0) (pa_cons (pv 1) pa_nil))))
      (pss_cons (ps_if (pt_cmpR op_ge (pe_ix ix_tup (pv 3) pe_int (fun _ _ => rfl)) (pv 2) (nomark _)) pss_never pss_nil)
      (pss_one (ps_ret (pv 3)))), ?_⟩
    refine ⟨_, rfl, _, rfl, a, fp, s, kk, ww, l, r, rfl, hv, sok, hlen, tok, hs, hyp, fun e H' v f vat th => ?_, ke⟩
    obtain ⟨p, kv, wv, rfl, hp, hk, hw⟩ := nt_shape th
    refine ⟨_, rfl, p, _, _, _, rfl, rfl, SqT.of hp, atI_nat (j := 4) rfl, _, rfl, _, _, rfl, rfl, _, rfl, ?_⟩
    rw [size_nd] at hc
    rw [decide_eq_false (by omega)]
    exact iteF ⟨_, rfl, kq e H' p kv wv f vat hp hk hw⟩
/-! ### rank, above -/
def spRK : Sp := fun vs H Q _ => ∃ v t, vs = [v] ∧ Th H t v ∧ t.keyB = true ∧ ∀ H', Same H H' → Q (.int (rankT t)) H'
theorem rank_ok {t : PV.T} (h : t.keyB = true) : (T.tup [.str "rank", t]).ok := by
  show T.within (.tup [.str "rank", t]) 2 = true
  simp only [T.within, T.withins, List.length_cons, List.length_nil, keyB_within h, Bool.true_and, Bool.and_true, Bool.and_eq_true, decide_eq_true_eq]
  exact ⟨⟨by decide, by decide⟩, by decide +kernel⟩
theorem sc_RK : FnScope ["key"] ["key"] (defScope (top 43)) := ⟨rfl, rfl, rfl, by decide +kernel, rfl, by decide +kernel, by decide +kernel⟩
theorem ok_RK (T : Txt K mg A) : Okf P w K mg base CX0 6 A.fRK ["key"] spRK := by
  obtain ⟨fd, F, b⟩ := T.d_rank
  refine ⟨fd, F.ok sc_RK (fun vs H Q E h => ?_) (fun cdv Ar outer s H vs Q E hr h => ?_), b⟩
  · obtain ⟨v, t, rfl, _⟩ := h; rfl
  · obtain ⟨v, t, rfl, ht, hk, k⟩ := h
    refine ⟨_, pss_one (ps_ret (pe_callO (ok_seal T) hr (by rfl) T.g_seal T.d_seal.kp no0 (pa_cons (pe_tup (pa_cons pe_str (pa_cons (pv 0) pa_nil))) pa_nil))), ?_⟩
    refine ⟨_, rfl, by show 2 ≤ sizeLine; decide, fun p hp => ?_⟩
    have s1 : Same H (upd H p (.tup [.str "rank", v])) := Same.fresh hp
    exact ⟨_, PV.T.tup [.str "rank", t], rfl, ⟨p, _, rfl, upd_same, _, _, rfl, rfl, _, _, rfl, ht.keep (Same.tk s1), rfl⟩, rank_ok hk, fun H' s2 => k H' (Same.trans s1 s2)⟩
def spAB : Sp := fun vs H Q _ => ∃ v u t r, vs = [v, u] ∧ Th H t v ∧ Th H r u ∧ t.keyB = true ∧ r.keyB = true ∧ ∀ H', Same H H' → Q (.bl (aboveT t r)) H'
theorem sc_AB : FnScope ["key", "other", "own", "its"] ["key", "other"] (defScope (top 44)) := ⟨rfl, rfl, rfl, by decide +kernel, rfl, by decide +kernel, by decide +kernel⟩
theorem ok_AB (T : Txt K mg A) : Okf P w K mg base CX0 7 A.fAB ["key", "other"] spAB := by
  obtain ⟨fd, F, b⟩ := T.d_above
  refine ⟨fd, F.ok sc_AB (fun vs H Q E h => ?_) (fun cdv Ar outer s H vs Q E hr h => ?_), b⟩
  · obtain ⟨v, u, t, r, rfl, _⟩ := h; rfl
  · obtain ⟨v, u, t, r, rfl, ht, hu, kt, ku, k⟩ := h
    refine ⟨_, pss_cons (ps_set (i := 2) sc_AB.nd rfl (.inl rfl) (pe_callO (ok_RK T) hr (by rfl) T.g_rank T.d_rank.kp no0 (pa_cons (pv 0) pa_nil)))
      (pss_cons (ps_set (i := 3) sc_AB.nd rfl (.inl rfl) (pe_callO (ok_RK T) hr (by rfl) T.g_rank T.d_rank.kp no0 (pa_cons (pv 1) pa_nil)))
      (pss_one (ps_ret (pe_or (pe_cmpR op_gt (pv 2) (pv 3) (nomark _)) (pe_one (pe_and (pe_cmpR op_eq (pv 2) (pv 3) (nomark _)) (pe_one (pe_callO (ok_ahead T) hr (by rfl) T.g_ahead T.d_ahead.kp no0 (pa_cons (pv 0) (pa_cons (pv 1) pa_nil)))))))))), ?_⟩
    refine ⟨_, rfl, v, t, rfl, ht, kt, fun H1 s1 => ?_⟩
    refine ⟨_, rfl, u, r, rfl, hu.keep (Same.tk s1), ku, fun H2 s2 => ?_⟩
    have s12 := Same.trans s1 s2
    have fin : ∀ x, x = aboveT t r → Q (.bl x) H2 := fun x e => by rw [e]; exact k H2 s12
    refine ⟨_, rfl, _, rfl, _, _, rfl, rfl, _, rfl, ?_⟩
    by_cases c : rankT r < rankT t
    · rw [decide_eq_true c]
      refine iteT (fin _ ?_)
      unfold aboveT
      rw [decide_eq_true c]
      rfl
    · rw [decide_eq_false c]
      refine iteF ⟨_, rfl, _, rfl, rfl, _, rfl, ?_⟩
      by_cases d : rankT t = rankT r
      · rw [decide_eq_true (by rw [d])]
        refine iteT ⟨_, rfl, _, rfl, v, u, t, r, rfl, ht.keep (Same.tk s12), hu.keep (Same.tk s12), kt, ku, fin _ ?_⟩
        unfold aboveT
        rw [decide_eq_false c, decide_eq_true d]
        simp
      · rw [decide_eq_false (fun z => d (V.int.inj z))]
        refine iteF (fin _ ?_)
        unfold aboveT
        rw [decide_eq_false c, decide_eq_false d]
        rfl
end
end PV
/-! W5: part. -/
namespace PV
open PySem PySem.Spec L2
/-! ### what is seen -/
def SeenOr (s : VS) (rs : List T) : Prop := ∀ x ∈ rs, s.see (sealOf x) = some x ∨ s.see (sealOf x) = none
def Seen (s : VS) (rs : List T) : Prop := ∀ x ∈ rs, s.see (sealOf x) = some x
def Lost (s : VS) (rs : List T) : Prop := ∃ x ∈ rs, s.see (sealOf x) = none
theorem Seen.snoc {s : VS} {rs : List T} {x : T} (h : Seen s rs) (hx : s.see (sealOf x) = some x) : Seen s (rs ++ [x]) := fun y hy => by
  rcases List.mem_append.mp hy with q | q
  · exact h y q
  · rw [List.mem_singleton.mp q]; exact hx
theorem Seen.nil {s : VS} : Seen s [] := fun _ h => by cases h
theorem partW_inj {u v : Tr} {key : T} (h : partW u key = partW v key) : u = v := by
  cases u with
  | nil => cases v with
    | nil => rfl
    | nd k w l r => rw [partW_nd] at h; cases h
  | nd k w l r => cases v with
    | nil => rw [partW_nd] at h; cases h
    | nd k' w' l' r' =>
      rw [partW_nd, partW_nd] at h
      injection h
theorem partW_dropL : ∀ (t : Tr) (key : T) (j : Nat), ∃ u : Tr, (partW t key).drop j = partW u key ∧ (t.Ok → u.Ok) ∧ u.size ≤ t.size ∧ ∃ ls, partL t key = partL u key ++ ls
  | t, key, 0 => ⟨t, rfl, id, Nat.le_refl _, [], (List.append_nil _).symm⟩
  | .nil, key, j + 1 => ⟨.nil, rfl, id, Nat.le_refl _, [], rfl⟩
  | .nd k w l r, key, j + 1 => by
    rw [partW_nd, List.drop_succ_cons, partC, partL]
    split
    · obtain ⟨u, h1, h2, h3, ls, h4⟩ := partW_dropL r key j
      exact ⟨u, h1, fun ⟨_, _, _, _, h⟩ => h2 h, by rw [size_nd]; omega, ls ++ _, by rw [h4, List.append_assoc]⟩
    · obtain ⟨u, h1, h2, h3, ls, h4⟩ := partW_dropL l key j
      exact ⟨u, h1, fun ⟨_, _, _, h, _⟩ => h2 h, by rw [size_nd]; omega, ls ++ _, by rw [h4, List.append_assoc]⟩
theorem drop_of_get {α : Type} {l : List α} {j : Nat} {x : α} (h : l[j]? = some x) : l.drop j = x :: l.drop (j + 1) := by
  obtain ⟨hj, e⟩ := List.getElem?_eq_some_iff.mp h
  rw [List.drop_eq_getElem_cons hj, e]
theorem partC_size (key k w : T) (l r : Tr) : (partC key (.nd k w l r)).size < (Tr.nd k w l r).size := by
  rw [partC, size_nd]; split <;> omega
theorem partC_ok (key : T) {k w : T} {l r : Tr} (h : (Tr.nd k w l r).Ok) : (partC key (.nd k w l r)).Ok := by
  obtain ⟨_, _, _, h1, h2⟩ := h
  rw [partC]; split <;> assumption
theorem get_drop0 {α : Type} {l : List α} {j : Nat} {x : α} {ys : List α} (h : l.drop j = x :: ys) : l[j]? = some x := by
  have e : (l.drop j)[0]? = some x := by rw [h]; rfl
  rw [List.getElem?_drop] at e
  simpa using e
theorem VS.Ok.rdsM {s : VS} (h : s.Ok) {rs : List T} (q : ∀ x ∈ rs, x.ok) : (s.rds rs).Ok := VS.Ok.rds h q
theorem Seen.ok {s : VS} (h : s.Ok) {rs : List T} (q : Seen s rs) : ∀ x ∈ rs, x.ok := fun x hx => (h.see (q x hx)).2
section
variable {P : Program} {w : World} {K : PySem.W.Frag} {mg : Str → Option Value} {base : Heap} {A : Ad}
def spPA (A : Ad) (kd : Kd) : Sp := fun vs H Q E => ∃ a fp s t key kv, vs = [.ref a, .int (Tr.root t), kv] ∧ Vat A kd H a fp s ∧ s.Ok ∧ s.noted.length + t.size ≤ 1000000 ∧ s.own.length + t.size ≤ 1000000 ∧ t.Ok ∧ t.size ≤ 300 ∧ Th H key kv ∧ key.keyB = true ∧
  SeenOr s ((partW t key).map Tr.th) ∧
  (Seen s ((partW t key).map Tr.th) → LayOK s (partL t key) → ∀ H' p, Fit fp H H' → Vat A kd H' a fp ((s.rds ((partW t key).map Tr.th)).lays (partL t key)) → H' p = some (.tup [.int (part t key).1.root, .int (part t key).2.root]) → Q (.ref p) H') ∧
  (Seen s ((partW t key).map Tr.th) → ¬ LayOK s (partL t key) → ∀ H' dd, Fit fp H H' → ClashAt A H' (.ref A.cCL) (some dd) → E (.ref A.cCL) (some dd) H') ∧
  (Lost s ((partW t key).map Tr.th) → ∀ H', Fit fp H H' → E (.ref A.cNP) none H')
theorem sc_PA : FnScope ["vault", "root", "key", "way", "count", "node", "left", "right", "lesser", "greater", "beneath", "rest"] ["vault", "root", "key"] (defScope (top 47)) := ⟨rfl, rfl, rfl, by decide +kernel, rfl, by decide +kernel, by decide +kernel⟩
theorem ok_PA (T : Txt K mg A) (kd : Kd) : Okf P w K mg base (L2.CX P w) 9 A.fPA ["vault", "root", "key"] (spPA A kd) := by
  obtain ⟨fd, F, b⟩ := T.d_part
  refine ⟨fd, F.okX sc_PA (fun vs H Q E h => ?_) (fun cdv Ar outer s H vs Q E hr h => ?_), b⟩
  · obtain ⟨a, fp, s, t, key, kv, rfl, _⟩ := h; rfl
  · obtain ⟨a, fp, s, t, key, kv, rfl, hv, sok, hnl, hol, tok, ts, hkv, hkey, hyp, kq, kc, kn⟩ := h
    have nd := sc_PA.nd
    refine ⟨_, pss_cons (ps_set (i := 3) nd rfl (.inl rfl) (pe_lst pa_nil))
      (pss_cons (ps_set (i := 4) nd rfl (.inl rfl) (pe_cst (by rfl) T.c_UNBOUND))
      (pss_cons (ps_while (passes_of rfl) (pt_cmpR op_ne (pv 1) pe_int (nomark _))
        (pss_cons (ps_set (i := 5) nd rfl (.inl rfl) (pe_callO (ok_NB T kd) hr (by rfl) T.g_node_beneath T.d_node_beneath.kp (up (takes_of rfl rfl rfl rfl)) (pa_cons (pv 0) (pa_cons (pv 1) (pa_cons (pv 4) pa_nil)))))
        (pss_cons (ps_expr (pe_bm PySem.F.plainAttrs_list PySem.F.slot_list_append PySem.F.type_list_append mt_append (pv 3) (pa_cons (pv 5) pa_nil)))
        (pss_cons (ps_set (i := 4) nd rfl (.inl rfl) (pe_ix ix_tup (pv 5) pe_int (fun _ _ => rfl)))
        (pss_cons (ps_set (i := 1) nd rfl (.inl rfl) (pe_ix ix_tup (pv 5) pe_int (fun _ _ => rfl)))
        (pss_one (ps_if (pt_val (pe_callO (ok_ahead T) hr (by rfl) T.g_ahead T.d_ahead.kp no0 (pa_cons (pe_ix ix_tup (pv 5) pe_int (fun _ _ => rfl)) (pa_cons (pv 2) pa_nil))))
          (pss_one (ps_set (i := 1) nd rfl (.inl rfl) (pe_ix ix_tup (pv 5) pe_int (fun _ _ => rfl)))) pss_nil)))))))
      (pss_cons (ps_set (i := 6) nd rfl (.inl rfl) pe_int)
      (pss_cons (ps_set (i := 7) nd rfl (.inl rfl) pe_int)
      (pss_cons (ps_set (i := 8) nd rfl (.inl rfl) pe_int)
      (pss_cons (ps_set (i := 9) nd rfl (.inl rfl) pe_int)
      (pss_cons (ps_set (i := 10) nd rfl (.inl rfl) pe_int)
      (pss_cons (ps_for (passes_of rfl) rfl (RT.pi_revA (by rfl) T.b_reversed (pv 3)) (pg_name (i := 5) nd rfl (.inl rfl))
        (pss_cons (ps_set (i := 11) nd rfl (.inl rfl) (pe_op op_sub (pe_ix ix_tup (pv 5) pe_int (fun _ _ => rfl)) (pv 10)))
        (pss_cons (ps_set (i := 10) nd rfl (.inl rfl) (pe_ix ix_tup (pv 5) pe_int (fun _ _ => rfl)))
        (pss_one (ps_if (pt_val (pe_callO (ok_ahead T) hr (by rfl) T.g_ahead T.d_ahead.kp no0 (pa_cons (pe_ix ix_tup (pv 5) pe_int (fun _ _ => rfl)) (pa_cons (pv 2) pa_nil))))
          (pss_cons (ps_aug (i := 8) nd rfl (.inl rfl) (pv 11) ip_add)
          (pss_one (ps_set (i := 6) nd rfl (.inl rfl) (pe_methO (pv 0) (kd_cls T kd) (kd_lay T kd) (ok_lay T kd) hr (up (takes_of rfl rfl rfl rfl))
            (pa_cons (pe_tup (pa_cons (pe_ix ix_tup (pv 5) pe_int (fun _ _ => rfl)) (pa_cons (pe_ix ix_tup (pv 5) pe_int (fun _ _ => rfl)) (pa_cons (pe_ix ix_tup (pv 5) pe_int (fun _ _ => rfl)) (pa_cons (pv 6) (pa_cons (pv 8) pa_nil)))))) pa_nil)))))
          (pss_cons (ps_aug (i := 9) nd rfl (.inl rfl) (pv 11) ip_add)
          (pss_one (ps_set (i := 7) nd rfl (.inl rfl) (pe_methO (pv 0) (kd_cls T kd) (kd_lay T kd) (ok_lay T kd) hr (up (takes_of rfl rfl rfl rfl))
            (pa_cons (pe_tup (pa_cons (pe_ix ix_tup (pv 5) pe_int (fun _ _ => rfl)) (pa_cons (pe_ix ix_tup (pv 5) pe_int (fun _ _ => rfl)) (pa_cons (pv 7) (pa_cons (pe_ix ix_tup (pv 5) pe_int (fun _ _ => rfl)) (pa_cons (pv 9) pa_nil)))))) pa_nil))))))))))
      (pss_one (ps_ret (pe_tup (pa_cons (pv 6) (pa_cons (pv 7) pa_nil)))))))))))))
      , ?_⟩
    refine ⟨Nat.zero_le _, fun wl hwl => ?_⟩
    have pwl := partW_len t key
    refine ⟨fun m σ H' => ∃ j c cnt nv xs, σ = [some (.ref a), some (.int (Tr.root c)), some kv, some (.ref wl), some (.int cnt), nv, none, none, none, none, none, none] ∧ (partW t key).drop j = partW c key ∧ j ≤ (partW t key).length ∧ c.Ok ∧ c.size ≤ t.size ∧
      (c.size : Int) < cnt ∧ Seen s (((partW t key).take j).map Tr.th) ∧ Fit fp H H' ∧ H' wl = some (.lst xs) ∧ ThA H' (((partW t key).take j).map Tr.th) xs ∧ Vat A kd H' a fp (s.rds (((partW t key).take j).map Tr.th)) ∧ m = c.size,
      ⟨t.size, 0, t, 301, none, [], rfl, rfl, Nat.zero_le _, tok, Nat.le_refl _, by omega, Seen.nil, Fit.same (Same.fresh hwl), upd_same, rfl, hv.same (Same.fresh hwl), rfl⟩, ?_⟩
    rintro m σ H' ⟨j, c, cnt, nv, xs, rfl, ed, hj, cok, cs, ccnt, seen, fit, hL, hth, vat, rfl⟩
    refine ⟨_, rfl, rfl, _, rfl, ?_⟩
    have mxl : (((partW t key).take j).map Tr.th).length ≤ t.size := by rw [List.length_map, List.length_take]; omega
    have nl' := rds_noted (((partW t key).take j).map Tr.th) s
    cases c with
    | nd kk ww l r =>
      rw [decide_eq_false (show ¬ V.int (Tr.root (.nd kk ww l r)) = V.int 0 from fun z => seal_ne _ (V.int.inj z))]
      refine iteT ⟨_, fun _ _ h => h, ?_⟩
      rw [partW_nd] at ed
      have eg := get_drop0 ed
      have mem : nt kk ww l r ∈ (partW t key).map Tr.th := List.mem_map.mpr ⟨_, List.mem_of_getElem? eg, rfl⟩
      have hjl : j < (partW t key).length := (List.getElem?_eq_some_iff.mp eg).1
      refine ⟨_, rfl, _, rfl, _, rfl, a, fp, _, kk, ww, l, r, cnt, rfl, vat, sok.rds (seen.ok sok), by omega, cok, by omega, ccnt, ?_, fun e H1 p kx wx f1 vat1 hp hk hw => ?_, fun e H1 f1 => ?_⟩
      · unfold NodeHyp
        rw [see_rds]
        exact hyp _ mem
      · rw [see_rds] at e
        have hL1 := f1.lst hL
        have npw : p ≠ wl := ne_of hp hL1 (by intro z; cases z)
        have nl2 : NL H1 (upd H1 wl (.lst (xs ++ [.ref p]))) := NL.lst hL1
        have hp2 : upd H1 wl (.lst (xs ++ [.ref p])) p = some (.tup [kx, wx, .int l.root, .int r.root, .int ((l.size + r.size + 1 : Nat) : Int)]) := by rw [upd_ne npw]; exact hp
        refine ⟨_, rfl, .inl ⟨rfl, _, SqL.of hL1⟩, _, rfl, wl, _, _, rfl, rfl, hL1, ?_, ?_⟩
        · rw [hth.len]
          exact Nat.lt_of_le_of_lt (show _ ≤ 10 ^ 6 by omega) big2
        · refine ⟨_, rfl, p, _, _, _, rfl, rfl, SqT.of hp2, atI_nat (j := 4) rfl, _, rfl, p, _, _, _, rfl, rfl, SqT.of hp2, atI_nat (j := 2) rfl, ?_⟩
          refine ⟨_, rfl, p, _, _, _, rfl, rfl, SqT.of hp2, atI_nat (j := 0) rfl, _, rfl, kx, kv, kk, key, rfl, hk.keep nl2.tk, hkv.key hkey, cok.1, hkey, _, rfl, ?_⟩
          have cs' := partC_size key kk ww l r
          have fit2 : Fit fp H (upd H1 wl (.lst (xs ++ [.ref p]))) := (fit.trans f1).own hwl
          have etk : ((partW t key).take (j + 1)).map Tr.th = ((partW t key).take j).map Tr.th ++ [nt kk ww l r] := by
            rw [take_succ_of eg, List.map_append]; rfl
          have nxt : ∀ n, n = (partC key (.nd kk ww l r)).root → ∃ m', m' < (Tr.nd kk ww l r).size ∧ ∃ j c cnt nv xs2, [some (V.ref a), some (.int n), some kv, some (.ref wl), some (.int ((l.size + r.size + 1 : Nat) : Int)), some (.ref p), none, none, none, none, none, none] = [some (.ref a), some (.int (Tr.root c)), some kv, some (.ref wl), some (.int cnt), nv, none, none, none, none, none, none] ∧ (partW t key).drop j = partW c key ∧ j ≤ (partW t key).length ∧ c.Ok ∧ c.size ≤ t.size ∧
              (c.size : Int) < cnt ∧ Seen s (((partW t key).take j).map Tr.th) ∧ Fit fp H (upd H1 wl (.lst (xs ++ [.ref p]))) ∧ (upd H1 wl (.lst (xs ++ [.ref p]))) wl = some (.lst xs2) ∧ ThA (upd H1 wl (.lst (xs ++ [.ref p]))) (((partW t key).take j).map Tr.th) xs2 ∧ Vat A kd (upd H1 wl (.lst (xs ++ [.ref p]))) a fp (s.rds (((partW t key).take j).map Tr.th)) ∧ m' = c.size := fun n en => by
            subst en
            refine ⟨_, cs', j + 1, _, _, _, _, rfl, ?_, hjl, partC_ok key cok, by omega, by rw [size_nd] at cs'; omega, ?_, fit2, upd_same, ?_, ?_, rfl⟩
            · have q := drop_of_get eg
              rw [ed] at q
              injection q with _ q
              exact q.symm
            · rw [etk]; exact seen.snoc e
            · rw [etk]
              exact ((hth.keep f1.tk).keep nl2.tk).snoc (Th.mk_nt hp2 (hk.keep nl2.tk) (hw.keep nl2.tk) rfl rfl rfl)
            · rw [etk, rds_app]
              exact vat1.nl nl2
          by_cases ca : aheadT kk key = true
          · rw [ca]
            refine iteT ⟨_, rfl, p, _, _, _, rfl, rfl, SqT.of hp2, atI_nat (j := 3) rfl, nxt _ ?_⟩
            rw [partC, if_pos ca]
          · rw [Bool.not_eq_true] at ca
            rw [ca]
            refine iteF (nxt _ ?_)
            rw [partC, if_neg (by rw [ca]; decide)]
      · rw [see_rds] at e
        exact kn ⟨_, mem, e⟩ H1 (fit.trans f1)
    | nil =>
      rw [decide_eq_true (show V.int (Tr.root .nil) = V.int 0 from rfl)]
      refine iteF ?_
      have eall : (partW t key).take j = partW t key := by
        have q : (partW t key).length ≤ j := by
          have z := congrArg List.length ed
          rw [List.length_drop] at z
          have z2 : (partW Tr.nil key).length = 0 := rfl
          omega
        exact List.take_of_length_le q
      rw [eall] at seen hth vat nl'
      have sok2 : (s.rds ((partW t key).map Tr.th)).Ok := sok.rds (seen.ok sok)
      have xl := hth.len
      rw [List.length_map] at xl
      refine ⟨_, rfl, wl, xs, rfl, .inl ⟨SqL.of hL, RT.for_Itv (K := K) (xs := xs) (fun i σ H' => ∃ u c n1 rr, σ = [some (.ref a), some (.int 0), some kv, some (.ref wl), some (.int c), n1, some (.int (part u key).1.root), some (.int (part u key).2.root), some (.int ((part u key).1.size : Int)), some (.int ((part u key).2.size : Int)), some (.int (Tr.size u : Int)), rr] ∧
        (partW t key).drop (xs.length - i) = partW u key ∧ u.Ok ∧ u.size ≤ t.size ∧ LayOK s (partL u key) ∧ Fit fp H H' ∧ H' wl = some (.lst xs) ∧ ThA H' ((partW t key).map Tr.th) xs ∧ Vat A kd H' a fp ((s.rds ((partW t key).map Tr.th)).lays (partL u key)))
        ⟨.nil, cnt, nv, none, rfl, by rw [Nat.sub_zero, xl, List.drop_length]; rfl, trivial, Nat.zero_le _, LayOK.nil s, fit, hL, hth, vat⟩ (fun i σ H' ⟨_, _, _, _, _, _, _, _, _, _, q, _⟩ => SqL.of q) ?_ ?_⟩⟩
      · rintro i x σ H' hi hx ⟨u, c, n1, rr, rfl, eu, uok, us, lok, f', hL', hth', vat'⟩
        obtain ⟨tx, htx, hxt⟩ := hth'.get hx
        rw [List.getElem?_map] at htx
        obtain ⟨tr, etr, rfl⟩ := Option.map_eq_some_iff.mp htx
        obtain ⟨u', h1, h2, h3, ls, h4⟩ := partW_dropL t key (xs.length - 1 - i)
        have ed2 := drop_of_get etr
        rw [show xs.length - 1 - i + 1 = xs.length - i by omega, eu, h1] at ed2
        obtain ⟨kk, ww, l, r, rfl, rfl, e3⟩ := partW_cons ed2
        have e4 := partW_inj e3
        obtain ⟨p, kx, wx, rfl, hp, hk, hw⟩ := nt_shape hxt
        have uok' := h2 tok
        have kok := uok'.1
        have us' := h3
        rw [size_nd] at us'
        have pin := part_size (.nd kk ww l r) key
        have poin := part_ok key uok'
        have lenL := partL_len u key
        have lay0 := layAll_len (partL u key) (s.rds ((partW t key).map Tr.th)).own
        rw [rds_own] at lay0
        obtain ⟨dx, fs, hins, _, lk⟩ := vat'.ins
        have okL := partL_ok (key := key) uok (by omega : u.size ≤ 300)
        have sok3 := sok2.lays okL
        have lokr : LayOK (s.rds ((partW t key).map Tr.th)) (partL u key) := LayOK_rds.mpr lok
        -- what the lay is told and gives
        have hown : (VS.lays (s.rds ((partW t key).map Tr.th)) (partL u key)).own.length ≤ 1000000 := by
          show (layAll (s.rds ((partW t key).map Tr.th)).own (partL u key)).length ≤ _
          rw [rds_own]; omega
        have layY : ∀ (x : PV.T) (H2 H3 : Hp), partL (.nd kk ww l r) key = partL u key ++ [x] → LayOK (VS.lays (s.rds ((partW t key).map Tr.th)) (partL u key)) [x] → Same H' H2 → Fit fp H2 H3 → Vat A kd H3 a fp (VS.lays (VS.lays (s.rds ((partW t key).map Tr.th)) (partL u key)) [x]) →
            LayOK s (partL (.nd kk ww l r) key) ∧ Fit fp H H3 ∧ H3 wl = some (.lst xs) ∧ ThA H3 ((partW t key).map Tr.th) xs ∧ Vat A kd H3 a fp ((s.rds ((partW t key).map Tr.th)).lays (partL (.nd kk ww l r) key)) := fun x H2 H3 eL lk2 s2 f3 v3 => by
          have lk3 : LayOK (s.rds ((partW t key).map Tr.th)) (partL (.nd kk ww l r) key) := by rw [eL]; exact LayOK_app.mpr ⟨lokr, lk2⟩
          refine ⟨LayOK_rds.mp lk3, (f'.trans (.same s2)).trans f3, f3.lst (s2 _ _ hL'), hth'.keep (fun b ys e => f3.tk b ys (s2 _ _ e)), ?_⟩
          rw [eL, lays_app]
          exact v3
        have layN : ∀ (x : PV.T) (H2 H3 : Hp) (dd : Addr), partL (.nd kk ww l r) key = partL u key ++ [x] → ¬ LayOK (VS.lays (s.rds ((partW t key).map Tr.th)) (partL u key)) [x] → Same H' H2 → Fit fp H2 H3 → ClashAt A H3 (.ref A.cCL) (some dd) → E (.ref A.cCL) (some dd) H3 := fun x H2 H3 dd eL nlk s2 f3 ca => by
          refine kc seen (fun z => nlk ?_) H3 dd ((f'.trans (.same s2)).trans f3) ca
          rw [h4, eL] at z
          exact (LayOK_app.mp (LayOK_rds.mpr (LayOK_app.mp z).1)).2
        refine ⟨_, rfl, p, _, _, _, rfl, rfl, SqT.of hp, atI_nat (j := 4) rfl, _, rfl, _, _, rfl, rfl, _, rfl, p, _, _, _, rfl, rfl, SqT.of hp, atI_nat (j := 4) rfl, ?_⟩
        refine ⟨_, rfl, p, _, _, _, rfl, rfl, SqT.of hp, atI_nat (j := 0) rfl, _, rfl, kx, kv, kk, key, rfl, hk, hkv.key hkey, kok, hkey, _, rfl, ?_⟩
        by_cases ca : aheadT kk key = true
        · rw [ca]
          have eu2 : u = r := by rw [e4, partC, if_pos ca]
          subst eu2
          have ep : part (.nd kk ww l u) key = (.nd kk ww l (part u key).1, (part u key).2) := by rw [part, if_pos ca]
          have eL : partL (.nd kk ww l u) key = partL u key ++ [nt kk ww l (part u key).1] := by rw [partL, if_pos ca]
          rw [ep] at pin poin
          have es : ((part u key).1.size : Int) + (((l.size + u.size + 1 : Nat) : Int) - (u.size : Int)) = ((l.size + (part u key).1.size + 1 : Nat) : Int) := by omega
          refine iteT ⟨_, rfl, _, rfl, _, _, rfl, rfl, ?_⟩
          refine ⟨_, rfl, a, dx, fs, rfl, hins, lk, _, rfl, p, _, _, _, rfl, rfl, SqT.of hp, atI_nat (j := 0) rfl, _, rfl, p, _, _, _, rfl, rfl, SqT.of hp, atI_nat (j := 1) rfl, _, rfl, p, _, _, _, rfl, rfl, SqT.of hp, atI_nat (j := 2) rfl, _, rfl, _, rfl,
            by show 5 ≤ sizeLine; decide, fun q hq => ?_⟩
          have s2 := Same.fresh (o := HO.tup [kx, wx, .int l.root, .int (part u key).1.root, .int (((part u key).1.size : Int) + (((l.size + u.size + 1 : Nat) : Int) - (u.size : Int)))]) hq
          refine ⟨a, fp, _, _, (nt kk ww l (part u key).1), rfl, vat'.same s2, sok3, hown, Th.mk_nt upd_same (hk.keep (Same.tk s2)) (hw.keep (Same.tk s2)) rfl rfl es, (nt_ok poin.1 (by rw [size_nd] at pin ⊢; rw [size_nd] at pin; omega)), fun lk2 H3 f3 v3 => ?_, fun nlk H3 dd f3 ca => layN _ _ H3 dd eL nlk s2 f3 ca⟩
          obtain ⟨lok2, f4, hL3, hth3, v4⟩ := layY _ _ H3 eL lk2 s2 f3 v3
          refine ⟨.nd kk ww l u, c, some (.ref p), some (.int (((l.size + u.size + 1 : Nat) : Int) - (u.size : Int))), ?_, ?_, uok', h3, lok2, f4, hL3, hth3, v4⟩
          · rw [ep, size_nd, ← es]; rfl
          · rw [show xs.length - (i + 1) = xs.length - 1 - i by omega]; exact h1
        · rw [Bool.not_eq_true] at ca
          rw [ca]
          have cb : ¬ aheadT kk key = true := by rw [ca]; decide
          have eu2 : u = l := by rw [e4, partC, if_neg cb]
          subst eu2
          have ep : part (.nd kk ww u r) key = ((part u key).1, .nd kk ww (part u key).2 r) := by rw [part, if_neg cb]
          have eL : partL (.nd kk ww u r) key = partL u key ++ [nt kk ww (part u key).2 r] := by rw [partL, if_neg cb]
          rw [ep] at pin poin
          have es : ((part u key).2.size : Int) + (((u.size + r.size + 1 : Nat) : Int) - (u.size : Int)) = (((part u key).2.size + r.size + 1 : Nat) : Int) := by omega
          refine iteF ⟨_, rfl, _, rfl, ((part u key).2.size : Int), (((u.size + r.size + 1 : Nat) : Int) - (u.size : Int)), rfl, rfl, ?_⟩
          refine ⟨_, rfl, a, dx, fs, rfl, hins, lk, _, rfl, p, _, _, _, rfl, rfl, SqT.of hp, atI_nat (j := 0) rfl, _, rfl, p, _, _, _, rfl, rfl, SqT.of hp, atI_nat (j := 1) rfl, _, rfl, _, rfl, p, _, _, _, rfl, rfl, SqT.of hp, atI_nat (j := 3) rfl, _, rfl,
            by show 5 ≤ sizeLine; decide, fun q hq => ?_⟩
          have s2 := Same.fresh (o := HO.tup [kx, wx, .int (part u key).2.root, .int r.root, .int (((part u key).2.size : Int) + (((u.size + r.size + 1 : Nat) : Int) - (u.size : Int)))]) hq
          refine ⟨a, fp, _, _, (nt kk ww (part u key).2 r), rfl, vat'.same s2, sok3, hown, Th.mk_nt upd_same (hk.keep (Same.tk s2)) (hw.keep (Same.tk s2)) rfl rfl es, (nt_ok poin.2 (by rw [size_nd] at pin ⊢; rw [size_nd] at pin; omega)), fun lk2 H3 f3 v3 => ?_, fun nlk H3 dd f3 ca => layN _ _ H3 dd eL nlk s2 f3 ca⟩
          obtain ⟨lok2, f4, hL3, hth3, v4⟩ := layY _ _ H3 eL lk2 s2 f3 v3
          refine ⟨.nd kk ww u r, c, some (.ref p), some (.int (((u.size + r.size + 1 : Nat) : Int) - (u.size : Int))), ?_, ?_, uok', h3, lok2, f4, hL3, hth3, v4⟩
          · rw [ep, size_nd, ← es]; rfl
          · rw [show xs.length - (i + 1) = xs.length - 1 - i by omega]; exact h1
      · rintro σ H' ⟨u, c, n1, rr, rfl, eu, uok, us, lok, f', hL', hth', vat'⟩
        rw [Nat.sub_self, List.drop_zero] at eu
        have e := partW_inj eu
        subst e
        refine ⟨_, rfl, _, rfl, by show 2 ≤ sizeLine; decide, fun p hp => ?_⟩
        exact kq seen lok _ p (f'.fresh hp) (vat'.same (Same.fresh hp)) upd_same
end
end PV
/-! W5b: rebuilt, put. -/
namespace PV
open PySem PySem.Spec L2
section
variable {P : Program} {w : World} {K : PySem.W.Frag} {mg : Str → Option Value} {base : Heap} {A : Ad}
theorem Ch.head {key : PV.T} {m c tr : Tr} {rest : List Tr} (h : Ch key m (tr :: rest) c) : ∃ k w l r, m = .nd k w l r ∧ tr = .nd k w l r ∧ Ch key (ch key (.nd k w l r)) rest c := by
  cases h with
  | cons h => exact ⟨_, _, _, _, rfl, rfl, h⟩
def spRE (A : Ad) (kd : Kd) : Sp := fun vs H Q E => ∃ a fp s wl xs ys key kv t c u more, vs = [.ref a, .ref wl, kv, .int (Tr.root u), .int more] ∧ Vat A kd H a fp s ∧ s.Ok ∧ s.own.length + ys.length ≤ 1000000 ∧ H wl = some (.lst xs) ∧ ThA H (ys.map Tr.th) xs ∧ Ch key t ys c ∧ t.Ok ∧ t.size ≤ 300 ∧
  (t.size : Int) + more ≤ 300 ∧ -1 ≤ more ∧ u.Ok ∧ (u.size : Int) = c.size + more ∧ Th H key kv ∧ key.keyB = true ∧
  (LayOK s (plugL key ys u) → ∀ H', Fit fp H H' → Vat A kd H' a fp (s.lays (plugL key ys u)) → Q (.int (plug key ys u).root) H') ∧
  (¬ LayOK s (plugL key ys u) → ∀ H' dd, Fit fp H H' → ClashAt A H' (.ref A.cCL) (some dd) → E (.ref A.cCL) (some dd) H')
theorem sc_RE : FnScope ["vault", "way", "key", "root", "more", "node"] ["vault", "way", "key", "root", "more"] (defScope (top 49)) := ⟨rfl, rfl, rfl, by decide +kernel, rfl, by decide +kernel, by decide +kernel⟩
theorem ok_RE (T : Txt K mg A) (kd : Kd) : Okf P w K mg base (L2.CX P w) 9 A.fRE ["vault", "way", "key", "root", "more"] (spRE A kd) := by
  obtain ⟨fd, F, b⟩ := T.d_rebuilt
  refine ⟨fd, F.okX sc_RE (fun vs H Q E h => ?_) (fun cdv Ar outer s H vs Q E hr h => ?_), b⟩
  · obtain ⟨a, fp, s, wl, xs, ys, key, kv, t, c, u, more, rfl, _⟩ := h; rfl
  · obtain ⟨a, fp, s, wl, xs, ys, key, kv, t, c, u, more, rfl, hv, sok, hol, hL, hth, hch, tok, ts, tm, hm, uok, us, hkv, hkey, kq, kc⟩ := h
    have nd := sc_RE.nd
    refine ⟨_, pss_cons (ps_for (passes_of rfl) rfl (RT.pi_revA (by rfl) T.b_reversed (pv 1)) (pg_name (i := 5) nd rfl (.inl rfl))
        (pss_one (ps_if (pt_val (pe_callO (ok_ahead T) hr (by rfl) T.g_ahead T.d_ahead.kp no0 (pa_cons (pv 2) (pa_cons (pe_ix ix_tup (pv 5) pe_int (fun _ _ => rfl)) pa_nil))))
          (pss_one (ps_set (i := 3) nd rfl (.inl rfl) (pe_methO (pv 0) (kd_cls T kd) (kd_lay T kd) (ok_lay T kd) hr (up (takes_of rfl rfl rfl rfl))
            (pa_cons (pe_tup (pa_cons (pe_ix ix_tup (pv 5) pe_int (fun _ _ => rfl)) (pa_cons (pe_ix ix_tup (pv 5) pe_int (fun _ _ => rfl)) (pa_cons (pv 3) (pa_cons (pe_ix ix_tup (pv 5) pe_int (fun _ _ => rfl)) (pa_cons (pe_op op_add (pe_ix ix_tup (pv 5) pe_int (fun _ _ => rfl)) (pv 4)) pa_nil)))))) pa_nil))))
          (pss_one (ps_set (i := 3) nd rfl (.inl rfl) (pe_methO (pv 0) (kd_cls T kd) (kd_lay T kd) (ok_lay T kd) hr (up (takes_of rfl rfl rfl rfl))
            (pa_cons (pe_tup (pa_cons (pe_ix ix_tup (pv 5) pe_int (fun _ _ => rfl)) (pa_cons (pe_ix ix_tup (pv 5) pe_int (fun _ _ => rfl)) (pa_cons (pe_ix ix_tup (pv 5) pe_int (fun _ _ => rfl)) (pa_cons (pv 3) (pa_cons (pe_op op_add (pe_ix ix_tup (pv 5) pe_int (fun _ _ => rfl)) (pv 4)) pa_nil)))))) pa_nil)))))))
      (pss_one (ps_ret (pv 3))), ?_⟩
    have xl := hth.len
    rw [List.length_map] at xl
    refine ⟨_, rfl, wl, xs, rfl, .inl ⟨SqL.of hL, RT.for_Itv (K := K) (xs := xs) (fun i σ H' => ∃ nv, σ = [some (.ref a), some (.ref wl), some kv, some (.int (plug key (ys.drop (xs.length - i)) u).root), some (.int more), nv] ∧ LayOK s (plugL key (ys.drop (xs.length - i)) u) ∧
      Fit fp H H' ∧ H' wl = some (.lst xs) ∧ ThA H' (ys.map Tr.th) xs ∧ Vat A kd H' a fp (s.lays (plugL key (ys.drop (xs.length - i)) u)))
      ⟨none, by rw [Nat.sub_zero, xl, List.drop_length]; rfl, by rw [Nat.sub_zero, xl, List.drop_length]; exact LayOK.nil s, Fit.refl _ _, hL, hth, by rw [Nat.sub_zero, xl, List.drop_length]; exact hv⟩ (fun i σ H' ⟨_, _, _, _, q, _⟩ => SqL.of q) ?_ ?_⟩⟩
    · rintro i x σ H' hi hx ⟨nv, rfl, lok, f', hL', hth', vat'⟩
      obtain ⟨tx, htx, hxt⟩ := hth'.get hx
      rw [List.getElem?_map] at htx
      obtain ⟨tr, etr, rfl⟩ := Option.map_eq_some_iff.mp htx
      have ed := drop_of_get etr
      rw [show xs.length - 1 - i + 1 = xs.length - i by omega] at ed
      obtain ⟨m, hcm, mok, ms⟩ := hch.drop (xs.length - 1 - i)
      rw [ed] at hcm
      obtain ⟨kk, ww, l, r, rfl, rfl, hc2⟩ := hcm.head
      generalize ys.drop (xs.length - i) = rest at *
      have psz := plug_size hc2 us
      have uok' := mok tok
      have kok := uok'.1
      have pok := plug_ok hc2 (ch_ok key uok') uok
      obtain ⟨p, kx, wx, rfl, hp, hk, hw⟩ := nt_shape hxt
      obtain ⟨dx, fs, hins, _, lk⟩ := vat'.ins
      have epre : plugL key ys u = plugL key (.nd kk ww l r :: rest) u ++ plugL key (ys.take (xs.length - 1 - i)) (plug key (.nd kk ww l r :: rest) u) := by
        rw [← ed, ← plugL_app, List.take_append_drop]
      have okL : ∀ x ∈ plugL key rest u, x.ok := plugL_ok hc2 us (by have q := ch_le key (.nd kk ww l r); omega) hm (by have q := ch_le key (.nd kk ww l r); omega) (ch_ok key uok') uok
      have rl : rest.length + 1 ≤ ys.length := by
        have q := congrArg List.length ed
        rw [List.length_drop, List.length_cons] at q
        omega
      have lay0 := layAll_len (plugL key rest u) s.own
      have lenL := plugL_len key rest u
      have hown : (VS.lays s (plugL key rest u)).own.length ≤ 1000000 := by
        show (layAll s.own (plugL key rest u)).length ≤ _
        omega
      have sok3 := sok.lays okL
      have layY : ∀ (x : PV.T) (H2 H3 : Hp), plugL key (.nd kk ww l r :: rest) u = plugL key rest u ++ [x] → LayOK (s.lays (plugL key rest u)) [x] → Same H' H2 → Fit fp H2 H3 → Vat A kd H3 a fp ((s.lays (plugL key rest u)).lays [x]) →
          LayOK s (plugL key (.nd kk ww l r :: rest) u) ∧ Fit fp H H3 ∧ H3 wl = some (.lst xs) ∧ ThA H3 (ys.map Tr.th) xs ∧ Vat A kd H3 a fp (s.lays (plugL key (.nd kk ww l r :: rest) u)) := fun x H2 H3 eL lk2 s2 f3 v3 => by
        refine ⟨?_, (f'.trans (.same s2)).trans f3, f3.lst (s2 _ _ hL'), hth'.keep (fun b ys e => f3.tk b ys (s2 _ _ e)), ?_⟩
        · rw [eL]; exact LayOK_app.mpr ⟨lok, lk2⟩
        · rw [eL, lays_app]; exact v3
      have layN : ∀ (x : PV.T) (H2 H3 : Hp) (dd : Addr), plugL key (.nd kk ww l r :: rest) u = plugL key rest u ++ [x] → ¬ LayOK (s.lays (plugL key rest u)) [x] → Same H' H2 → Fit fp H2 H3 → ClashAt A H3 (.ref A.cCL) (some dd) → E (.ref A.cCL) (some dd) H3 := fun x H2 H3 dd eL nlk s2 f3 ca => by
        refine kc (fun z => nlk ?_) H3 dd ((f'.trans (.same s2)).trans f3) ca
        rw [epre, eL] at z
        exact (LayOK_app.mp (LayOK_app.mp z).1).2
      refine ⟨_, rfl, _, rfl, p, _, _, _, rfl, rfl, SqT.of hp, atI_nat (j := 0) rfl, kv, kx, key, kk, rfl, hkv.key hkey, hk, hkey, kok, _, rfl, ?_⟩
      rw [ch] at psz
      by_cases ca : aheadT key kk = true
      · rw [ca]
        rw [if_pos ca] at psz
        have ep : plug key (.nd kk ww l r :: rest) u = .nd kk ww (plug key rest u) r := by rw [plug, if_pos ca]
        have eL : plugL key (.nd kk ww l r :: rest) u = plugL key rest u ++ [nt kk ww (plug key rest u) r] := by rw [plugL, if_pos ca]
        have es : ((l.size + r.size + 1 : Nat) : Int) + more = (((plug key rest u).size + r.size + 1 : Nat) : Int) := by omega
        refine iteT ⟨_, rfl, a, dx, fs, rfl, hins, lk, _, rfl, p, _, _, _, rfl, rfl, SqT.of hp, atI_nat (j := 0) rfl, _, rfl, p, _, _, _, rfl, rfl, SqT.of hp, atI_nat (j := 1) rfl, _, rfl, _, rfl, p, _, _, _, rfl, rfl, SqT.of hp, atI_nat (j := 3) rfl,
            _, rfl, p, _, _, _, rfl, rfl, SqT.of hp, atI_nat (j := 4) rfl, _, rfl, _, _, rfl, rfl,
            by show 5 ≤ sizeLine; decide, fun q hq => ?_⟩
        have s2 := Same.fresh (o := HO.tup [kx, wx, .int (plug key rest u).root, .int r.root, .int (((l.size + r.size + 1 : Nat) : Int) + more)]) hq
        refine ⟨a, fp, _, _, nt kk ww (plug key rest u) r, rfl, vat'.same s2, sok3, hown, Th.mk_nt upd_same (hk.keep (Same.tk s2)) (hw.keep (Same.tk s2)) rfl rfl es, nt_ok ⟨uok'.1, uok'.2.1, uok'.2.2.1, pok, uok'.2.2.2.2⟩ ?_, fun lk2 H3 f3 v3 => ?_, fun nlk H3 dd f3 ca => layN _ _ H3 dd eL nlk s2 f3 ca⟩
        · rw [size_nd] at ms ⊢; omega
        · obtain ⟨lok2, f4, hL3, hth3, v4⟩ := layY _ _ H3 eL lk2 s2 f3 v3
          rw [← ed] at lok2 v4
          refine ⟨some (.ref p), ?_, ?_, f4, hL3, hth3, ?_⟩
          · rw [show xs.length - (i + 1) = xs.length - 1 - i by omega, ed, ep]; rfl
          · rw [show xs.length - (i + 1) = xs.length - 1 - i by omega]; exact lok2
          · rw [show xs.length - (i + 1) = xs.length - 1 - i by omega]; exact v4
      · rw [if_neg ca] at psz
        have cb := ca
        rw [Bool.not_eq_true] at ca
        rw [ca]
        have ep : plug key (.nd kk ww l r :: rest) u = .nd kk ww l (plug key rest u) := by rw [plug, if_neg cb]
        have eL : plugL key (.nd kk ww l r :: rest) u = plugL key rest u ++ [nt kk ww l (plug key rest u)] := by rw [plugL, if_neg cb]
        have es : ((l.size + r.size + 1 : Nat) : Int) + more = ((l.size + (plug key rest u).size + 1 : Nat) : Int) := by omega
        refine iteF ⟨_, rfl, a, dx, fs, rfl, hins, lk, _, rfl, p, _, _, _, rfl, rfl, SqT.of hp, atI_nat (j := 0) rfl, _, rfl, p, _, _, _, rfl, rfl, SqT.of hp, atI_nat (j := 1) rfl, _, rfl, p, _, _, _, rfl, rfl, SqT.of hp, atI_nat (j := 2) rfl, _, rfl,
            _, rfl, p, _, _, _, rfl, rfl, SqT.of hp, atI_nat (j := 4) rfl, _, rfl, _, _, rfl, rfl,
            by show 5 ≤ sizeLine; decide, fun q hq => ?_⟩
        have s2 := Same.fresh (o := HO.tup [kx, wx, .int l.root, .int (plug key rest u).root, .int (((l.size + r.size + 1 : Nat) : Int) + more)]) hq
        refine ⟨a, fp, _, _, nt kk ww l (plug key rest u), rfl, vat'.same s2, sok3, hown, Th.mk_nt upd_same (hk.keep (Same.tk s2)) (hw.keep (Same.tk s2)) rfl rfl es, nt_ok ⟨uok'.1, uok'.2.1, uok'.2.2.1, uok'.2.2.2.1, pok⟩ ?_, fun lk2 H3 f3 v3 => ?_, fun nlk H3 dd f3 ca => layN _ _ H3 dd eL nlk s2 f3 ca⟩
        · rw [size_nd] at ms ⊢; omega
        · obtain ⟨lok2, f4, hL3, hth3, v4⟩ := layY _ _ H3 eL lk2 s2 f3 v3
          rw [← ed] at lok2 v4
          refine ⟨some (.ref p), ?_, ?_, f4, hL3, hth3, ?_⟩
          · rw [show xs.length - (i + 1) = xs.length - 1 - i by omega, ed, ep]; rfl
          · rw [show xs.length - (i + 1) = xs.length - 1 - i by omega]; exact lok2
          · rw [show xs.length - (i + 1) = xs.length - 1 - i by omega]; exact v4
    · rintro σ H' ⟨nv, rfl, lok, f', hL', hth', vat'⟩
      rw [Nat.sub_self, List.drop_zero] at lok vat'
      refine ⟨_, rfl, ?_⟩
      rw [Nat.sub_self, List.drop_zero]
      exact kq lok H' f' vat'
end
end PV
/-! W5c: put. -/
namespace PV
open PySem PySem.Spec L2
section
variable {P : Program} {w : World} {K : PySem.W.Frag} {mg : Str → Option Value} {base : Heap} {A : Ad}
theorem key_scal {H : Hp} {k t : PV.T} {v u : V} (hk : Th H k v) (ht : Th H t u) (a : k.keyB = true) (b : t.keyB = true) : scal v u = true ∧ decide (v = u) = decide (k = t) := by
  rcases hk.key_shape a with ⟨i, rfl, rfl⟩ | ⟨z, rfl, rfl⟩
  · rcases ht.key_shape b with ⟨j, rfl, rfl⟩ | ⟨y, rfl, rfl⟩
    · refine ⟨rfl, ?_⟩
      by_cases c : i = j
      · rw [decide_eq_true (by rw [c]), decide_eq_true (by rw [c])]
      · rw [decide_eq_false fun z => c (V.int.inj z), decide_eq_false fun z => c (PV.T.int.inj z)]
    · refine ⟨rfl, ?_⟩
      rw [decide_eq_false (by intro z; cases z), decide_eq_false (by intro z; cases z)]
  · rcases ht.key_shape b with ⟨j, rfl, rfl⟩ | ⟨y, rfl, rfl⟩
    · refine ⟨rfl, ?_⟩
      rw [decide_eq_false (by intro z; cases z), decide_eq_false (by intro z; cases z)]
    · refine ⟨rfl, ?_⟩
      by_cases c : z = y
      · rw [decide_eq_true (by rw [c]), decide_eq_true (by rw [c])]
      · rw [decide_eq_false fun z => c (V.str.inj z), decide_eq_false fun z => c (PV.T.str.inj z)]
theorem Seen.app {s : VS} {a b : List PV.T} : Seen s (a ++ b) ↔ Seen s a ∧ Seen s b := by
  unfold Seen
  simp only [List.mem_append]
  exact ⟨fun h => ⟨fun x hx => h x (.inl hx), fun x hx => h x (.inr hx)⟩, fun h x hx => hx.elim (h.1 x) (h.2 x)⟩
theorem Seen_rds {s : VS} {r a : List PV.T} : Seen (s.rds r) a ↔ Seen s a := by unfold Seen; simp only [see_rds]
theorem SeenOr_rds {s : VS} {r a : List PV.T} : SeenOr (s.rds r) a ↔ SeenOr s a := by unfold SeenOr; simp only [see_rds]
theorem Lost_rds {s : VS} {r a : List PV.T} : Lost (s.rds r) a ↔ Lost s a := by unfold Lost; simp only [see_rds]
def spPU (A : Ad) (kd : Kd) : Sp := fun vs H Q E => ∃ a fp s t key wo kv wv, vs = [.ref a, .int (Tr.root t), kv, wv] ∧ Vat A kd H a fp s ∧ s.Ok ∧ s.noted.length ≤ 900000 ∧ s.own.length ≤ 900000 ∧ t.Ok ∧ t.size ≤ 299 ∧ Th H key kv ∧ key.keyB = true ∧
  Th H wo wv ∧ wo.within 1 = true ∧ wo ≠ .non ∧ SeenOr s (putR t key) ∧
  (Seen s (putR t key) → LayOK s (putL t key wo) → ∀ H', Fit fp H H' → Vat A kd H' a fp ((s.rds (putR t key)).lays (putL t key wo)) → Q (.int (put t key wo).root) H') ∧
  (Seen s (putR t key) → ¬ LayOK s (putL t key wo) → ∀ H' dd, Fit fp H H' → ClashAt A H' (.ref A.cCL) (some dd) → E (.ref A.cCL) (some dd) H') ∧
  (Lost s (putR t key) → ∀ H', Fit fp H H' → E (.ref A.cNP) none H')
theorem sc_PU : FnScope ["vault", "root", "key", "worth", "way", "count", "node", "left", "right"] ["vault", "root", "key", "worth"] (defScope (top 50)) := ⟨rfl, rfl, rfl, by decide +kernel, rfl, by decide +kernel, by decide +kernel⟩
theorem ok_PU (T : Txt K mg A) (kd : Kd) : Okf P w K mg base (L2.CX P w) 10 A.fPU ["vault", "root", "key", "worth"] (spPU A kd) := by
  obtain ⟨fd, F, b⟩ := T.d_put
  refine ⟨fd, F.okX sc_PU (fun vs H Q E h => ?_) (fun cdv Ar outer s H vs Q E hr h => ?_), b⟩
  · obtain ⟨a, fp, s, t, key, wo, kv, wv, rfl, _⟩ := h; rfl
  · obtain ⟨a, fp, s, t, key, wo, kv, wv, rfl, hv, sok, hnl, hol, tok, ts, hkv, hkey, hwv, hw1, hwn, hyp, kq, kc, kn⟩ := h
    have nd := sc_PU.nd
    refine ⟨_, pss_cons (ps_set (i := 4) nd rfl (.inl rfl) (pe_lst pa_nil))
      (pss_cons (ps_set (i := 5) nd rfl (.inl rfl) (pe_cst (by rfl) T.c_UNBOUND))
      (pss_cons (ps_while (passes_of rfl) (pt_cmpR op_ne (pv 1) pe_int (nomark _))
        (pss_cons (ps_set (i := 6) nd rfl (.inl rfl) (pe_callO (ok_NB T kd) hr (by rfl) T.g_node_beneath T.d_node_beneath.kp (up (takes_of rfl rfl rfl rfl)) (pa_cons (pv 0) (pa_cons (pv 1) (pa_cons (pv 5) pa_nil)))))
        (pss_cons (ps_if (pt_cmpR op_eq (pe_ix ix_tup (pv 6) pe_int (fun _ _ => rfl)) (pv 2) (nomark _))
          (pss_one (ps_ret (pe_callO (ok_RE T kd) hr (by rfl) T.g_rebuilt T.d_rebuilt.kp (up (takes_of rfl rfl rfl rfl)) (pa_cons (pv 0) (pa_cons (pv 4) (pa_cons (pv 2) (pa_cons
            (pe_methO (pv 0) (kd_cls T kd) (kd_lay T kd) (ok_lay T kd) hr (up (takes_of rfl rfl rfl rfl)) (pa_cons (pe_tup (pa_cons (pv 2) (pa_cons (pv 3) (pa_cons (pe_ix ix_tup (pv 6) pe_int (fun _ _ => rfl)) (pa_cons (pe_ix ix_tup (pv 6) pe_int (fun _ _ => rfl)) (pa_cons (pe_ix ix_tup (pv 6) pe_int (fun _ _ => rfl)) pa_nil)))))) pa_nil))
            (pa_cons pe_int pa_nil)))))))) pss_nil)
        (pss_cons (ps_if (pt_val (pe_callO (ok_AB T) hr (by rfl) T.g_above T.d_above.kp no0 (pa_cons (pv 2) (pa_cons (pe_ix ix_tup (pv 6) pe_int (fun _ _ => rfl)) pa_nil))))
          (pss_cons (ps_asg (pe_callO (ok_PA T kd) hr (by rfl) T.g_part T.d_part.kp (up (takes_of rfl rfl rfl rfl)) (pa_cons (pv 0) (pa_cons (pv 1) (pa_cons (pv 2) pa_nil)))) (pg_tup (by rfl) (pgs_cons (pg_name (i := 7) nd rfl (.inl rfl)) (pgs_cons (pg_name (i := 8) nd rfl (.inl rfl)) pgs_nil))))
          (pss_one (ps_ret (pe_callO (ok_RE T kd) hr (by rfl) T.g_rebuilt T.d_rebuilt.kp (up (takes_of rfl rfl rfl rfl)) (pa_cons (pv 0) (pa_cons (pv 4) (pa_cons (pv 2) (pa_cons
            (pe_methO (pv 0) (kd_cls T kd) (kd_lay T kd) (ok_lay T kd) hr (up (takes_of rfl rfl rfl rfl)) (pa_cons (pe_tup (pa_cons (pv 2) (pa_cons (pv 3) (pa_cons (pv 7) (pa_cons (pv 8) (pa_cons (pe_op op_add (pe_ix ix_tup (pv 6) pe_int (fun _ _ => rfl)) pe_int) pa_nil)))))) pa_nil))
            (pa_cons pe_int pa_nil))))))))) pss_nil)
        (pss_cons (ps_expr (pe_bm PySem.F.plainAttrs_list PySem.F.slot_list_append PySem.F.type_list_append mt_append (pv 4) (pa_cons (pv 6) pa_nil)))
        (pss_cons (ps_set (i := 5) nd rfl (.inl rfl) (pe_ix ix_tup (pv 6) pe_int (fun _ _ => rfl)))
        (pss_cons (ps_set (i := 1) nd rfl (.inl rfl) (pe_ix ix_tup (pv 6) pe_int (fun _ _ => rfl)))
        (pss_one (ps_if (pt_val (pe_callO (ok_ahead T) hr (by rfl) T.g_ahead T.d_ahead.kp no0 (pa_cons (pv 2) (pa_cons (pe_ix ix_tup (pv 6) pe_int (fun _ _ => rfl)) pa_nil))))
          (pss_one (ps_set (i := 1) nd rfl (.inl rfl) (pe_ix ix_tup (pv 6) pe_int (fun _ _ => rfl)))) pss_nil)))))))))
      (pss_one (ps_ret (pe_callO (ok_RE T kd) hr (by rfl) T.g_rebuilt T.d_rebuilt.kp (up (takes_of rfl rfl rfl rfl)) (pa_cons (pv 0) (pa_cons (pv 4) (pa_cons (pv 2) (pa_cons
            (pe_methO (pv 0) (kd_cls T kd) (kd_lay T kd) (ok_lay T kd) hr (up (takes_of rfl rfl rfl rfl)) (pa_cons (pe_tup (pa_cons (pv 2) (pa_cons (pv 3) (pa_cons pe_int (pa_cons pe_int (pa_cons pe_int pa_nil)))))) pa_nil))
            (pa_cons pe_int pa_nil)))))))))), ?_⟩
    refine ⟨Nat.zero_le _, fun wl hwl => ?_⟩
    have tok' := put_ok tok hkey hw1 hwn
    have rlen := putR_len t key
    have llen := putL_len t key wo
    have lall := putL_ok tok ts hkey hw1 hwn
    refine ⟨fun m σ H' => ∃ trs c cnt nv xs, σ = [some (.ref a), some (.int (Tr.root c)), some kv, some wv, some (.ref wl), some (.int cnt), nv, none, none] ∧ PutAt key wo t trs c ∧
      (c.size : Int) < cnt ∧ Seen s (trs.map Tr.th) ∧ Fit fp H H' ∧ H' wl = some (.lst xs) ∧ ThA H' (trs.map Tr.th) xs ∧ Vat A kd H' a fp (s.rds (trs.map Tr.th)) ∧ m = c.size,
      ⟨t.size, [], t, 301, none, [], rfl, .start, by omega, Seen.nil, Fit.same (Same.fresh hwl), upd_same, rfl, hv.same (Same.fresh hwl), rfl⟩, ?_⟩
    rintro m σ H' ⟨trs, c, cnt, nv, xs, rfl, pat, ccnt, seen, fit, hL, hth, vat, rfl⟩
    refine ⟨_, rfl, rfl, _, rfl, ?_⟩
    have cle := pat.ch.le
    have cok := pat.ch.ok tok
    have nl' := rds_noted (trs.map Tr.th) s
    rw [List.length_map] at nl'
    have xl := hth.len
    rw [List.length_map] at xl
    have finN : ∀ (L : List PV.T) (x : PV.T), putL c key wo = L ++ [x] → LayOK s (putL t key wo) → LayOK ((s.rds (putR t key)).lays L) [x] := fun L x eL z => by
      rw [pat.lays, eL] at z
      exact (LayOK_app.mp (LayOK_rds.mpr (LayOK_app.mp z).1)).2
    have finL : ∀ (L : List PV.T) (x : PV.T), putL c key wo = L ++ [x] → ∀ y ∈ L ++ [x], y.ok := fun L x eL y hy => lall y (by rw [pat.lays, eL]; exact List.mem_append_left _ hy)
    have finO : ∀ (L : List PV.T), L.length ≤ 301 → ((s.rds (putR t key)).lays L).own.length ≤ 901000 := fun L hl => by
      have q := layAll_len L (s.rds (putR t key)).own
      show (layAll (s.rds (putR t key)).own L).length ≤ _
      rw [rds_own] at q ⊢
      omega
    have pllen := putL_len c key wo
    have pml := putMore_le c key
    have psz := put_size c key wo
    have pok := put_ok cok hkey hw1 hwn
    have finRE : ∀ (L : List PV.T) (x : PV.T) (H3 : Hp) (more : Int), more = (putMore c key : Int) → putL c key wo = L ++ [x] → Seen s (putR t key) → LayOK (s.rds (putR t key)) L → LayOK ((s.rds (putR t key)).lays L) [x] → Fit fp H H3 → H3 wl = some (.lst xs) → ThA H3 (trs.map Tr.th) xs →
        Vat A kd H3 a fp (((s.rds (putR t key)).lays L).lays [x]) → spRE A kd [.ref a, .ref wl, kv, .int (put c key wo).root, .int more] H3 Q E := fun L x H3 more em eL sn l1 l2 f3 hL3 hth3 v3 => by
      have lx := finO L (by rw [eL] at pllen; rw [List.length_append, List.length_singleton] at pllen; omega)
      have o1 : (((s.rds (putR t key)).lays L).lays [x]).own.length ≤ 901001 := by
        have q := put_len ((s.rds (putR t key)).lays L).own (sealOf x) x
        show (M.put ((s.rds (putR t key)).lays L).own (sealOf x) x).length ≤ _
        omega
      refine ⟨a, fp, _, wl, xs, trs, key, kv, t, c, put c key wo, more, rfl, v3, ?_, by omega, hL3, hth3, pat.ch, tok, by omega, by omega, by omega, pok, by omega, hkv.key hkey, hkey, fun l4 H4 f4 v4 => ?_, fun nl4 H4 dd f4 ca => ?_⟩
      · rw [← lays_app]
        exact (sok.rds (sn.ok sok)).lays (finL L x eL)
      · have e5 : putL t key wo = (L ++ [x]) ++ plugL key trs (put c key wo) := by rw [pat.lays, eL]
        rw [← lays_app] at l4
        rw [← lays_app, ← lays_app, ← List.append_assoc, ← e5] at v4
        rw [← pat.tree]
        refine kq sn ?_ H4 (f3.trans f4) v4
        rw [e5]
        exact LayOK_rds.mp (LayOK_app.mpr ⟨LayOK_app.mpr ⟨l1, l2⟩, l4⟩)
      · refine kc sn (fun z => nl4 ?_) H4 dd (f3.trans f4) ca
        have e5 : putL t key wo = (L ++ [x]) ++ plugL key trs (put c key wo) := by rw [pat.lays, eL]
        rw [e5] at z
        have z2 := (LayOK_app.mp (LayOK_rds (rs := putR t key) |>.mpr z)).2
        rw [lays_app] at z2
        exact z2
    cases c with
    | nil =>
      rw [decide_eq_true (show V.int (Tr.root .nil) = V.int 0 from rfl)]
      refine iteF ?_
      have eR : putR t key = trs.map Tr.th := by rw [pat.reads]; exact List.append_nil _
      rw [← eR] at seen vat
      have eL : putL .nil key wo = [] ++ [nt key wo .nil .nil] := rfl
      obtain ⟨dx, fs, hins, _, lk⟩ := vat.ins
      refine ⟨_, rfl, _, rfl, _, rfl, _, rfl, a, dx, fs, rfl, hins, lk, _, rfl, _, rfl, by show 5 ≤ sizeLine; decide, fun q hq => ?_⟩
      have s2 := Same.fresh (o := HO.tup [kv, wv, .int 0, .int 0, .int 1]) hq
      refine ⟨a, fp, _, _, nt key wo .nil .nil, rfl, vat.same s2, sok.rds (seen.ok sok), by rw [rds_own]; omega, Th.mk_nt upd_same (hkv.key hkey) (hwv.keep (fun b ys e => s2 _ _ (fit.tk b ys e))) rfl rfl rfl, finL [] _ eL _ (by simp), fun lk2 H3 f3 v3 => ?_, fun nlk H3 dd f3 ca => ?_⟩
      · exact finRE [] _ H3 1 rfl eL seen (LayOK.nil _) lk2 ((fit.trans (.same s2)).trans f3) (f3.lst (s2 _ _ hL)) (hth.keep (fun b ys e => f3.tk b ys (s2 _ _ e))) v3
      · exact kc seen (fun z => nlk (finN [] _ eL z)) H3 dd ((fit.trans (.same s2)).trans f3) ca
    | nd kk ww l r =>
      rw [decide_eq_false (show ¬ V.int (Tr.root (.nd kk ww l r)) = V.int 0 from fun z => seal_ne _ (V.int.inj z))]
      refine iteT ⟨_, fun _ _ h => h, ?_⟩
      have eR1 : putR (.nd kk ww l r) key = nt kk ww l r :: (if kk = key then [] else if aboveT key kk = true then (partW (.nd kk ww l r) key).map Tr.th else if aheadT key kk = true then putR l key else putR r key) := by rw [putR]
      have mem : nt kk ww l r ∈ putR t key := by rw [pat.reads, eR1]; exact List.mem_append_right _ List.mem_cons_self
      refine ⟨_, rfl, _, rfl, _, rfl, a, fp, _, kk, ww, l, r, cnt, rfl, vat, sok.rds (seen.ok sok), by omega, cok, by omega, ccnt, ?_, fun e H1 p kx wx f1 vat1 hp hk hw => ?_, fun e H1 f1 => ?_⟩
      · unfold NodeHyp
        rw [see_rds]
        exact hyp _ mem
      · rw [see_rds] at e
        have seen' : Seen s (trs.map Tr.th ++ [nt kk ww l r]) := seen.snoc e
        have vat1' : Vat A kd H1 a fp (s.rds (trs.map Tr.th ++ [nt kk ww l r])) := by rw [rds_app]; exact vat1
        have hL1 := f1.lst hL
        have hth1 := hth.keep f1.tk
        have fit1 := fit.trans f1
        have kok := cok.1
        obtain ⟨sc1, sc2⟩ := key_scal hk (hkv.key (H' := H1) hkey) kok hkey
        refine ⟨_, rfl, p, _, _, _, rfl, rfl, SqT.of hp, atI_nat (j := 0) rfl, _, rfl, sc1, _, rfl, ?_⟩
        rw [sc2]
        by_cases c1 : kk = key
        · rw [decide_eq_true c1]
          have eR : putR t key = trs.map Tr.th ++ [nt kk ww l r] := by rw [pat.reads, eR1, if_pos c1]
          rw [← eR] at seen' vat1'
          have eL : putL (.nd kk ww l r) key wo = [] ++ [nt key wo l r] := by rw [putL, if_pos c1]; rfl
          have eT : put (.nd kk ww l r) key wo = .nd key wo l r := by rw [put, if_pos c1]
          have eM : putMore (.nd kk ww l r) key = 0 := by rw [putMore, if_pos c1]
          rw [eT] at finRE
          obtain ⟨dx, fs, hins, _, lk⟩ := vat1'.ins
          refine iteT ⟨_, rfl, _, rfl, _, rfl, _, rfl, a, dx, fs, rfl, hins, lk, _, rfl, _, rfl, _, rfl, p, _, _, _, rfl, rfl, SqT.of hp, atI_nat (j := 2) rfl, _, rfl, p, _, _, _, rfl, rfl, SqT.of hp, atI_nat (j := 3) rfl, _, rfl, p, _, _, _, rfl, rfl, SqT.of hp, atI_nat (j := 4) rfl, by show 5 ≤ sizeLine; decide, fun q hq => ?_⟩
          have s2 := Same.fresh (o := HO.tup [kv, wv, .int l.root, .int r.root, .int ((l.size + r.size + 1 : Nat) : Int)]) hq
          refine ⟨a, fp, _, _, nt key wo l r, rfl, vat1'.same s2, sok.rds (seen'.ok sok), by rw [rds_own]; omega, Th.mk_nt upd_same (hkv.key hkey) (hwv.keep (fun b ys e => s2 _ _ (fit1.tk b ys e))) rfl rfl rfl, finL [] _ eL _ (by simp), fun lk2 H3 f3 v3 => ?_, fun nlk H3 dd f3 ca => ?_⟩
          · exact finRE [] _ H3 0 (by rw [eM]; rfl) eL seen' (LayOK.nil _) lk2 ((fit1.trans (.same s2)).trans f3) (f3.lst (s2 _ _ hL1)) (hth1.keep (fun b ys e => f3.tk b ys (s2 _ _ e))) v3
          · exact kc seen' (fun z => nlk (finN [] _ eL z)) H3 dd ((fit1.trans (.same s2)).trans f3) ca
        · rw [decide_eq_false c1]
          refine iteF ⟨_, rfl, _, rfl, p, _, _, _, rfl, rfl, SqT.of hp, atI_nat (j := 0) rfl, kv, kx, key, kk, rfl, hkv.key hkey, hk, hkey, kok, fun H2 s2 => ⟨_, rfl, ?_⟩⟩
          have hp2 := s2 _ _ hp
          have hL2 := s2 _ _ hL1
          have hth2 := hth1.keep (Same.tk s2)
          have fit2 : Fit fp H H2 := fit1.trans (.same s2)
          have vat2 := vat1'.same s2
          have hk2 := hk.keep (Same.tk s2)
          have hw2 := hw.keep (Same.tk s2)
          by_cases c2 : aboveT key kk = true
          · rw [c2]
            have eR : putR t key = (trs.map Tr.th ++ [nt kk ww l r]) ++ (partW (.nd kk ww l r) key).map Tr.th := by rw [pat.reads, eR1, if_neg c1, if_pos c2, List.append_assoc]; rfl
            have eL : putL (.nd kk ww l r) key wo = partL (.nd kk ww l r) key ++ [nt key wo (part (.nd kk ww l r) key).1 (part (.nd kk ww l r) key).2] := by rw [putL, if_neg c1, if_pos c2]
            have eT : put (.nd kk ww l r) key wo = .nd key wo (part (.nd kk ww l r) key).1 (part (.nd kk ww l r) key).2 := by rw [put, if_neg c1, if_pos c2]
            have eM : putMore (.nd kk ww l r) key = 1 := by rw [putMore, if_neg c1, if_pos c2]
            rw [eT] at finRE
            have pin := part_size (.nd kk ww l r) key
            have pwl := partL_len (.nd kk ww l r) key
            have nl2 := rds_noted (trs.map Tr.th ++ [nt kk ww l r]) s
            rw [List.length_append, List.length_map, List.length_singleton] at nl2
            have sub : ∀ x ∈ (partW (.nd kk ww l r) key).map Tr.th, x ∈ putR t key := fun x hx => by rw [eR]; exact List.mem_append_right _ hx
            refine iteT ⟨_, rfl, _, rfl, _, rfl, a, fp, _, .nd kk ww l r, key, kv, rfl, vat2, sok.rds (seen'.ok sok), by omega, by rw [rds_own]; omega, cok, by omega, hkv.key hkey, hkey, SeenOr_rds.mpr fun x hx => hyp x (sub x hx), fun sn2 lok2 H3 q f3 v3 hq => ?_, fun sn2 nlk H3 dd f3 ca => ?_, fun lost H3 f3 => ?_⟩
            · have sn : Seen s (putR t key) := by rw [eR]; exact Seen.app.mpr ⟨seen', Seen_rds.mp sn2⟩
              rw [← rds_app, ← eR] at v3
              rw [LayOK_rds] at lok2
              have fit3 := fit2.trans f3
              have hL3 := f3.lst hL2
              have hth3 := hth2.keep f3.tk
              have hp3 := f3.tk _ _ hp2
              obtain ⟨dx, fs, hins, _, lk⟩ := v3.ins
              refine ⟨q, _, rfl, SqT.of hq, rfl, _, _, rfl, _, _, rfl, rfl, ?_⟩
              refine ⟨_, rfl, _, rfl, _, rfl, _, rfl, a, dx, fs, rfl, hins, lk, _, rfl, _, rfl, _, rfl, _, rfl, _, rfl, p, _, _, _, rfl, rfl, SqT.of hp3, atI_nat (j := 4) rfl, _, _, rfl, rfl, by show 5 ≤ sizeLine; decide, fun q' hq' => ?_⟩
              have s4 := Same.fresh (o := HO.tup [kv, wv, .int (part (.nd kk ww l r) key).1.root, .int (part (.nd kk ww l r) key).2.root, .int (((l.size + r.size + 1 : Nat) : Int) + 1)]) hq'
              have es : ((l.size + r.size + 1 : Nat) : Int) + 1 = (((part (.nd kk ww l r) key).1.size + (part (.nd kk ww l r) key).2.size + 1 : Nat) : Int) := by rw [size_nd] at pin; omega
              refine ⟨a, fp, _, _, nt key wo (part (.nd kk ww l r) key).1 (part (.nd kk ww l r) key).2, rfl, v3.same s4, (sok.rds (sn.ok sok)).lays (partL_ok cok (by omega)), Nat.le_trans (finO _ (by omega)) (by decide), Th.mk_nt upd_same (hkv.key hkey) (hwv.keep (fun b ys e => s4 _ _ (fit3.tk b ys e))) rfl rfl es, finL _ _ eL _ (by simp), fun lk2 H5 f5 v5 => ?_, fun nlk H5 dd f5 ca => ?_⟩
              · exact finRE _ _ H5 1 (by rw [eM]; rfl) eL sn (LayOK_rds.mpr lok2) lk2 ((fit3.trans (.same s4)).trans f5) (f5.lst (s4 _ _ hL3)) (hth3.keep (fun b ys e => f5.tk b ys (s4 _ _ e))) v5
              · exact kc sn (fun z => nlk (finN _ _ eL z)) H5 dd ((fit3.trans (.same s4)).trans f5) ca
            · have sn : Seen s (putR t key) := by rw [eR]; exact Seen.app.mpr ⟨seen', Seen_rds.mp sn2⟩
              refine kc sn (fun z => nlk (LayOK_rds.mpr ?_)) H3 dd (fit2.trans f3) ca
              rw [pat.lays, eL] at z
              exact (LayOK_app.mp (LayOK_app.mp z).1).1
            · obtain ⟨x, hx, e0⟩ := Lost_rds.mp lost
              exact kn ⟨x, sub x hx, e0⟩ H3 (fit2.trans f3)
          · have c2' := c2
            rw [Bool.not_eq_true] at c2'
            rw [c2']
            have npw : p ≠ wl := ne_of hp2 hL2 (by intro z; cases z)
            have nl2 : NL H2 (upd H2 wl (.lst (xs ++ [.ref p]))) := NL.lst hL2
            have hp3 : upd H2 wl (.lst (xs ++ [.ref p])) p = some (.tup [kx, wx, .int l.root, .int r.root, .int ((l.size + r.size + 1 : Nat) : Int)]) := by rw [upd_ne npw]; exact hp2
            refine iteF ⟨_, rfl, .inl ⟨rfl, _, SqL.of hL2⟩, _, rfl, wl, _, _, rfl, rfl, hL2, ?_, ?_⟩
            · exact Nat.lt_of_le_of_lt (show _ ≤ 10 ^ 6 by omega) big2
            · refine ⟨_, rfl, p, _, _, _, rfl, rfl, SqT.of hp3, atI_nat (j := 4) rfl, _, rfl, p, _, _, _, rfl, rfl, SqT.of hp3, atI_nat (j := 3) rfl, ?_⟩
              refine ⟨_, rfl, _, rfl, p, _, _, _, rfl, rfl, SqT.of hp3, atI_nat (j := 0) rfl, kv, kx, key, kk, rfl, hkv.key hkey, hk2.keep nl2.tk, hkey, kok, _, rfl, ?_⟩
              have cs' : (ch key (.nd kk ww l r)).size < (Tr.nd kk ww l r).size := by rw [ch, size_nd]; split <;> omega
              have etk : (trs ++ [Tr.nd kk ww l r]).map Tr.th = trs.map Tr.th ++ [nt kk ww l r] := by rw [List.map_append]; rfl
              have nxt : ∀ n, n = (ch key (.nd kk ww l r)).root → ∃ m', m' < (Tr.nd kk ww l r).size ∧ ∃ trs c cnt nv xs2, [some (V.ref a), some (.int n), some kv, some wv, some (.ref wl), some (.int ((l.size + r.size + 1 : Nat) : Int)), some (.ref p), none, none] = [some (.ref a), some (.int (Tr.root c)), some kv, some wv, some (.ref wl), some (.int cnt), nv, none, none] ∧ PutAt key wo t trs c ∧
                  (c.size : Int) < cnt ∧ Seen s (trs.map Tr.th) ∧ Fit fp H (upd H2 wl (.lst (xs ++ [.ref p]))) ∧ (upd H2 wl (.lst (xs ++ [.ref p]))) wl = some (.lst xs2) ∧ ThA (upd H2 wl (.lst (xs ++ [.ref p]))) (trs.map Tr.th) xs2 ∧ Vat A kd (upd H2 wl (.lst (xs ++ [.ref p]))) a fp (s.rds (trs.map Tr.th)) ∧ m' = c.size := fun n en => by
                subst en
                refine ⟨_, cs', trs ++ [.nd kk ww l r], _, _, _, _, rfl, pat.step c1 c2, by rw [size_nd] at cs'; omega, ?_, fit2.own hwl, upd_same, ?_, ?_, rfl⟩
                · rw [etk]; exact seen'
                · rw [etk]
                  exact (hth2.keep nl2.tk).snoc (Th.mk_nt hp3 (hk2.keep nl2.tk) (hw2.keep nl2.tk) rfl rfl rfl)
                · rw [etk]
                  exact vat2.nl nl2
              by_cases ca : aheadT key kk = true
              · rw [ca]
                refine iteT ⟨_, rfl, p, _, _, _, rfl, rfl, SqT.of hp3, atI_nat (j := 2) rfl, nxt _ ?_⟩
                rw [ch, if_pos ca]
              · have cb := ca
                rw [Bool.not_eq_true] at ca
                rw [ca]
                refine iteF (nxt _ ?_)
                rw [ch, if_neg cb]
      · rw [see_rds] at e
        exact kn ⟨_, mem, e⟩ H1 (fit.trans f1)
end
end PV
/-! W5d: joined, cut (over a keeper that has all). -/
namespace PV
open PySem PySem.Spec L2
theorem Jw.inv {l r a b : Tr} {y : Tr × Bool × Nat} {xs : List (Tr × Bool × Nat)} (h : Jw l r (y :: xs) a b) : ∃ k1 w1 l1 r1 k2 w2 l2 r2, l = .nd k1 w1 l1 r1 ∧ r = .nd k2 w2 l2 r2 ∧
    ((aboveT k1 k2 = true ∧ y = (.nd k1 w1 l1 r1, true, (Tr.nd k1 w1 l1 r1).size + (Tr.nd k2 w2 l2 r2).size) ∧ Jw r1 (.nd k2 w2 l2 r2) xs a b) ∨
     (¬ aboveT k1 k2 = true ∧ y = (.nd k2 w2 l2 r2, false, (Tr.nd k1 w1 l1 r1).size + (Tr.nd k2 w2 l2 r2).size) ∧ Jw (.nd k1 w1 l1 r1) l2 xs a b)) := by
  cases h with
  | first c h => exact ⟨_, _, _, _, _, _, _, _, rfl, rfl, .inl ⟨c, rfl, h⟩⟩
  | second c h => exact ⟨_, _, _, _, _, _, _, _, rfl, rfl, .inr ⟨c, rfl, h⟩⟩
theorem Jw.det {l r l' r' a b : Tr} {xs : List (Tr × Bool × Nat)} (h : Jw l r xs a b) (h2 : Jw l' r' xs a b) : l = l' ∧ r = r' := by
  induction h generalizing l' r' with
  | nil => cases h2; exact ⟨rfl, rfl⟩
  | first c h ih =>
    obtain ⟨k1, w1, l1, r1, k2, w2, l2, r2, rfl, rfl, ⟨c', e, h'⟩ | ⟨c', e, h'⟩⟩ := h2.inv
    · obtain ⟨_, e2⟩ := ih h'
      injection e with e _
      exact ⟨e, e2⟩
    · injection e with _ e
      injection e with e _
      cases e
  | second c h ih =>
    obtain ⟨k1, w1, l1, r1, k2, w2, l2, r2, rfl, rfl, ⟨c', e, h'⟩ | ⟨c', e, h'⟩⟩ := h2.inv
    · injection e with _ e
      injection e with e _
      cases e
    · obtain ⟨e2, _⟩ := ih h'
      injection e with e _
      exact ⟨e2, e⟩
theorem Jw.dropL {l r a b : Tr} {xs : List (Tr × Bool × Nat)} (h : Jw l r xs a b) : ∀ j : Nat, ∃ l' r', Jw l' r' (xs.drop j) a b ∧ (l.Ok ∧ r.Ok → l'.Ok ∧ r'.Ok) ∧ l'.size + r'.size ≤ l.size + r.size ∧ ∃ ls, joinL l r = joinL l' r' ++ ls := by
  induction h with
  | @nil l r => intro j; exact ⟨l, r, by rw [List.drop_nil]; exact .nil, id, Nat.le_refl _, [], (List.append_nil _).symm⟩
  | @first k1 w1 k2 w2 l1 r1 l2 r2 le re ys c h ih =>
    intro j
    cases j with
    | zero => exact ⟨_, _, .first c h, id, Nat.le_refl _, [], (List.append_nil _).symm⟩
    | succ j =>
      obtain ⟨l', r', q, o, s, ls, e⟩ := ih j
      refine ⟨l', r', q, fun ⟨⟨_, _, _, _, z⟩, y⟩ => o ⟨z, y⟩, ?_, ls ++ _, by rw [joinL_first c, e, List.append_assoc]⟩
      simp only [size_nd] at s ⊢
      omega
  | @second k1 w1 k2 w2 l1 r1 l2 r2 le re ys c h ih =>
    intro j
    cases j with
    | zero => exact ⟨_, _, .second c h, id, Nat.le_refl _, [], (List.append_nil _).symm⟩
    | succ j =>
      obtain ⟨l', r', q, o, s, ls, e⟩ := ih j
      refine ⟨l', r', q, fun ⟨y, ⟨_, _, _, z, _⟩⟩ => o ⟨y, z⟩, ?_, ls ++ _, by rw [joinL_second c, e, List.append_assoc]⟩
      simp only [size_nd] at s ⊢
      omega
theorem Jw.nodes {l r a b : Tr} {xs : List (Tr × Bool × Nat)} (h : Jw l r xs a b) : (∀ x ∈ a.nodes, x ∈ l.nodes ∨ x ∈ r.nodes) ∧ (∀ x ∈ b.nodes, x ∈ l.nodes ∨ x ∈ r.nodes) := by
  induction h with
  | nil => exact ⟨fun x h => .inl h, fun x h => .inr h⟩
  | first c h ih =>
    exact ⟨fun x hx => (ih.1 x hx).imp (fun z => List.mem_cons_of_mem _ (List.mem_append_right _ z)) id, fun x hx => (ih.2 x hx).imp (fun z => List.mem_cons_of_mem _ (List.mem_append_right _ z)) id⟩
  | second c h ih =>
    exact ⟨fun x hx => (ih.1 x hx).imp id (fun z => List.mem_cons_of_mem _ (List.mem_append_left _ z)), fun x hx => (ih.2 x hx).imp id (fun z => List.mem_cons_of_mem _ (List.mem_append_left _ z))⟩
theorem Jw.ok {l r a b : Tr} {xs : List (Tr × Bool × Nat)} (h : Jw l r xs a b) : l.Ok ∧ r.Ok → a.Ok ∧ b.Ok := by
  induction h with
  | nil => exact id
  | first c h ih => exact fun ⟨⟨_, _, _, _, z⟩, y⟩ => ih ⟨z, y⟩
  | second c h ih => exact fun ⟨y, ⟨_, _, _, z, _⟩⟩ => ih ⟨y, z⟩
section
variable {P : Program} {w : World} {K : PySem.W.Frag} {mg : Str → Option Value} {base : Heap} {A : Ad}
def JA (H : Hp) : List (Tr × Bool × Nat) → List V → Prop
  | [], xs => xs = []
  | y :: l, xs => ∃ q p zs, xs = .ref q :: zs ∧ H q = some (.tup [.ref p, .bl y.2.1, .int (y.2.2 : Int)]) ∧ Th H y.1.th (.ref p) ∧ JA H l zs
theorem JA.keep {H H' : Hp} (k : Tk H H') : ∀ {l : List (Tr × Bool × Nat)} {xs : List V}, JA H l xs → JA H' l xs
  | [], _, h => h
  | y :: l, _, ⟨q, p, zs, e, h1, h2, h3⟩ => ⟨q, p, zs, e, k _ _ h1, h2.keep k, JA.keep k h3⟩
theorem JA.len {H : Hp} : ∀ {l : List (Tr × Bool × Nat)} {xs : List V}, JA H l xs → xs.length = l.length
  | [], _, h => by cases h; rfl
  | y :: l, _, ⟨q, p, zs, e, h1, h2, h3⟩ => by subst e; rw [List.length_cons, List.length_cons, JA.len h3]
theorem JA.get {H : Hp} : ∀ {l : List (Tr × Bool × Nat)} {xs : List V} {i : Nat} {x : V}, JA H l xs → xs[i]? = some x → ∃ y q p, l[i]? = some y ∧ x = .ref q ∧ H q = some (.tup [.ref p, .bl y.2.1, .int (y.2.2 : Int)]) ∧ Th H y.1.th (.ref p)
  | [], _, _, _, h, e => by cases h; simp at e
  | y :: l, _, 0, x, ⟨q, p, zs, e, h1, h2, h3⟩, e2 => by subst e; simp at e2; subst e2; exact ⟨y, q, p, rfl, rfl, h1, h2⟩
  | y :: l, _, i + 1, x, ⟨q, p, zs, e, h1, h2, h3⟩, e2 => by
    subst e
    obtain ⟨y', q', p', a, b⟩ := JA.get (i := i) (x := x) h3 (by simpa using e2)
    exact ⟨y', q', p', by simpa using a, b⟩
theorem JA.snoc {H : Hp} {y : Tr × Bool × Nat} {q p : Addr} (h1 : H q = some (.tup [.ref p, .bl y.2.1, .int (y.2.2 : Int)])) (h2 : Th H y.1.th (.ref p)) : ∀ {l : List (Tr × Bool × Nat)} {xs : List V}, JA H l xs → JA H (l ++ [y]) (xs ++ [.ref q])
  | [], _, e => by cases e; exact ⟨q, p, [], rfl, h1, h2, rfl⟩
  | u :: l, _, ⟨q', p', zs, e, h1', h2', h3⟩ => by subst e; exact ⟨q', p', zs ++ [.ref q], rfl, h1', h2', JA.snoc h1 h2 h3⟩
theorem keep_rd {H : Hp} {a : Addr} {fp : List Addr} {s : VS} (h : Vat A .keeper H a fp s) (t : PV.T) : s.rd t = s := by
  obtain ⟨d, _, hb, _⟩ := h
  exact plain_rd hb t
theorem and2_exit {i j : Nat} {σ : L2.St} {H : Hp} {v1 v2 : Int} {Q : Bool → Hp → Prop} (h1 : σ[i]? = some (some (V.int v1))) (h2 : σ[j]? = some (some (V.int v2))) (hz : v1 = 0 ∨ v2 = 0) (q : Q false H) :
    tAnd (tTest (tOp rNe (tVar i) (tC (.int 0)))) (tTest (tOp rNe (tVar j) (tC (.int 0)))) σ H Q := by
  refine ⟨_, h1, rfl, _, rfl, ?_⟩
  by_cases c : v1 = 0
  · rw [decide_eq_true (by rw [c])]
    exact iteF q
  · rw [decide_eq_false fun z => c (V.int.inj z)]
    have c2 : v2 = 0 := hz.resolve_left c
    refine iteT ⟨_, h2, rfl, _, rfl, ?_⟩
    rw [decide_eq_true (by rw [c2])]
    exact q
def spJO (A : Ad) : Sp := fun vs H Q E => ∃ a fp s l r most, vs = [.ref a, .int (Tr.root l), .int (Tr.root r), .int most] ∧ Vat A .keeper H a fp s ∧ s.Ok ∧ s.noted.length ≤ 1000000 ∧ s.own.length ≤ 900000 ∧ l.Ok ∧ r.Ok ∧ l.size + r.size ≤ 300 ∧ (l.size : Int) < most ∧ (r.size : Int) < most ∧
  Seen s l.nodes ∧ Seen s r.nodes ∧
  (LayOK s (joinL l r) → ∀ H', Fit fp H H' → Vat A .keeper H' a fp (s.lays (joinL l r)) → Q (.int (join l r).root) H') ∧
  (¬ LayOK s (joinL l r) → ∀ H' dd, Fit fp H H' → ClashAt A H' (.ref A.cCL) (some dd) → E (.ref A.cCL) (some dd) H')
theorem sc_JO : FnScope ["vault", "left", "right", "most", "way", "one", "other", "first", "second", "both", "root", "node", "is_first"] ["vault", "left", "right", "most"] (defScope (top 48)) := ⟨rfl, rfl, rfl, by decide +kernel, rfl, by decide +kernel, by decide +kernel⟩
theorem ok_JO (T : Txt K mg A) : Okf P w K mg base (L2.CX P w) 9 A.fJO ["vault", "left", "right", "most"] (spJO A) := by
  obtain ⟨fd, F, b⟩ := T.d_joined
  refine ⟨fd, F.okX sc_JO (fun vs H Q E h => ?_) (fun cdv Ar outer s H vs Q E hr h => ?_), b⟩
  · obtain ⟨a, fp, s, l, r, most, rfl, _⟩ := h; rfl
  · obtain ⟨a, fp, s, l, r, most, rfl, hv, sok, hnl, hol, lok, rok, lrs, lm, rm, sl, sr, kq, kc⟩ := h
    have nd := sc_JO.nd
    refine ⟨_, pss_cons (ps_set (i := 4) nd rfl (.inl rfl) (pe_lst pa_nil))
      (pss_cons (ps_set (i := 5) nd rfl (.inl rfl) (pv 3))
      (pss_cons (ps_set (i := 6) nd rfl (.inl rfl) (pv 3))
      (pss_cons (ps_while (passes_of rfl) (PW.pt (pw_and (pt_cmpR op_ne (pv 1) pe_int (nomark _)) (pw_and1 (pt_cmpR op_ne (pv 2) pe_int (nomark _)))))
        (pss_cons (ps_set (i := 7) nd rfl (.inl rfl) (pe_callO (ok_NB T .keeper) hr (by rfl) T.g_node_beneath T.d_node_beneath.kp (up (takes_of rfl rfl rfl rfl)) (pa_cons (pv 0) (pa_cons (pv 1) (pa_cons (pv 5) pa_nil)))))
        (pss_cons (ps_set (i := 8) nd rfl (.inl rfl) (pe_callO (ok_NB T .keeper) hr (by rfl) T.g_node_beneath T.d_node_beneath.kp (up (takes_of rfl rfl rfl rfl)) (pa_cons (pv 0) (pa_cons (pv 2) (pa_cons (pv 6) pa_nil)))))
        (pss_cons (ps_set (i := 9) nd rfl (.inl rfl) (pe_op op_add (pe_ix ix_tup (pv 7) pe_int (fun _ _ => rfl)) (pe_ix ix_tup (pv 8) pe_int (fun _ _ => rfl))))
        (pss_one (ps_if (pt_val (pe_callO (ok_AB T) hr (by rfl) T.g_above T.d_above.kp no0 (pa_cons (pe_ix ix_tup (pv 7) pe_int (fun _ _ => rfl)) (pa_cons (pe_ix ix_tup (pv 8) pe_int (fun _ _ => rfl)) pa_nil))))
          (pss_cons (ps_expr (pe_bm PySem.F.plainAttrs_list PySem.F.slot_list_append PySem.F.type_list_append mt_append (pv 4) (pa_cons (pe_tup (pa_cons (pv 7) (pa_cons pe_bl (pa_cons (pv 9) pa_nil)))) pa_nil)))
          (pss_cons (ps_set (i := 5) nd rfl (.inl rfl) (pe_ix ix_tup (pv 7) pe_int (fun _ _ => rfl)))
          (pss_one (ps_set (i := 1) nd rfl (.inl rfl) (pe_ix ix_tup (pv 7) pe_int (fun _ _ => rfl))))))
          (pss_cons (ps_expr (pe_bm PySem.F.plainAttrs_list PySem.F.slot_list_append PySem.F.type_list_append mt_append (pv 4) (pa_cons (pe_tup (pa_cons (pv 8) (pa_cons pe_bl (pa_cons (pv 9) pa_nil)))) pa_nil)))
          (pss_cons (ps_set (i := 6) nd rfl (.inl rfl) (pe_ix ix_tup (pv 8) pe_int (fun _ _ => rfl)))
          (pss_one (ps_set (i := 2) nd rfl (.inl rfl) (pe_ix ix_tup (pv 8) pe_int (fun _ _ => rfl))))))))))))
      (pss_cons (ps_set (i := 10) nd rfl (.inl rfl) (pv 1))
      (pss_cons (ps_if (pt_cmpR op_eq (pv 1) pe_int (nomark _)) (pss_one (ps_set (i := 10) nd rfl (.inl rfl) (pv 2))) pss_nil)
      (pss_cons (ps_for (passes_of rfl) rfl (RT.pi_revA (by rfl) T.b_reversed (pv 4)) (pg_tup (by rfl) (pgs_cons (pg_name (i := 11) nd rfl (.inl rfl)) (pgs_cons (pg_name (i := 12) nd rfl (.inl rfl)) (pgs_cons (pg_name (i := 9) nd rfl (.inl rfl)) pgs_nil))))
        (pss_one (ps_if (pt_val (pv 12))
          (pss_one (ps_set (i := 10) nd rfl (.inl rfl) (pe_methO (pv 0) (kd_cls T .keeper) (kd_lay T .keeper) (ok_lay T .keeper) hr (up (takes_of rfl rfl rfl rfl))
            (pa_cons (pe_tup (pa_cons (pe_ix ix_tup (pv 11) pe_int (fun _ _ => rfl)) (pa_cons (pe_ix ix_tup (pv 11) pe_int (fun _ _ => rfl)) (pa_cons (pe_ix ix_tup (pv 11) pe_int (fun _ _ => rfl)) (pa_cons (pv 10) (pa_cons (pv 9) pa_nil)))))) pa_nil))))
          (pss_one (ps_set (i := 10) nd rfl (.inl rfl) (pe_methO (pv 0) (kd_cls T .keeper) (kd_lay T .keeper) (ok_lay T .keeper) hr (up (takes_of rfl rfl rfl rfl))
            (pa_cons (pe_tup (pa_cons (pe_ix ix_tup (pv 11) pe_int (fun _ _ => rfl)) (pa_cons (pe_ix ix_tup (pv 11) pe_int (fun _ _ => rfl)) (pa_cons (pv 10) (pa_cons (pe_ix ix_tup (pv 11) pe_int (fun _ _ => rfl)) (pa_cons (pv 9) pa_nil)))))) pa_nil)))))))
      (pss_one (ps_ret (pv 10))))))))), ?_⟩
    refine ⟨Nat.zero_le _, fun wl hwl => ?_⟩
    refine ⟨_, rfl, _, rfl, ?_⟩
    refine ⟨fun m σ H' => ∃ lf rt ys o1 o2 n7 n8 n9 xs, σ = [some (.ref a), some (.int (Tr.root lf)), some (.int (Tr.root rt)), some (.int most), some (.ref wl), some (.int o1), some (.int o2), n7, n8, n9, none, none, none] ∧ Jw l r ys lf rt ∧
      (lf.size : Int) < o1 ∧ (rt.size : Int) < o2 ∧ Fit fp H H' ∧ H' wl = some (.lst xs) ∧ JA H' ys xs ∧ Vat A .keeper H' a fp s ∧ m = lf.size + rt.size,
      ⟨_, l, r, [], most, most, none, none, none, [], rfl, .nil, lm, rm, Fit.same (Same.fresh hwl), upd_same, rfl, hv.same (Same.fresh hwl), rfl⟩, ?_⟩
    rintro m σ H' ⟨lf, rt, ys, o1, o2, n7, n8, n9, xs, rfl, jw, c1, c2, fit, hL, hja, vat, rfl⟩
    have jl := jw.len
    have xl := hja.len
    obtain ⟨lfok, rtok⟩ := jw.ok ⟨lok, rok⟩
    by_cases hz : lf = .nil ∨ rt = .nil
    · refine and2_exit (i := 1) (j := 2) (v1 := lf.root) (v2 := rt.root) rfl rfl (hz.imp (fun e => by rw [e]; rfl) (fun e => by rw [e]; rfl)) ?_
      refine iteF ⟨_, rfl, _, rfl, rfl, _, rfl, ?_⟩
      by_cases hn : lf = .nil
      all_goals
        first
          | rw [decide_eq_true (show V.int lf.root = V.int 0 from by rw [hn]; rfl)]
            refine iteT ⟨_, rfl, ?_⟩
          | rw [decide_eq_false (show ¬ V.int lf.root = V.int 0 from fun z => hn (root_eq0 (V.int.inj z)))]
            refine iteF ?_
        refine ⟨_, rfl, wl, xs, rfl, .inl ⟨SqL.of hL, RT.for_Itv (K := K) (xs := xs) (fun i σ H' => ∃ l' r' m9 m11 m12, σ = [some (.ref a), some (.int (Tr.root lf)), some (.int (Tr.root rt)), some (.int most), some (.ref wl), some (.int o1), some (.int o2), n7, n8, m9, some (.int (join l' r').root), m11, m12] ∧ Jw l' r' (ys.drop (xs.length - i)) lf rt ∧
          LayOK s (joinL l' r') ∧ Fit fp H H' ∧ H' wl = some (.lst xs) ∧ JA H' ys xs ∧ Vat A .keeper H' a fp (s.lays (joinL l' r')))
          ⟨lf, rt, n9, none, none, by first | (rw [hn, join_nil]; rfl) | (rw [hz.resolve_left hn, join_nilr]; rfl), by rw [Nat.sub_zero, xl, List.drop_length]; exact .nil, by rw [show joinL lf rt = [] from by rcases hz with e | e <;> rw [e]; exact joinL_nil _; exact joinL_nilr _]; exact LayOK.nil s, fit, hL, hja, by rw [show joinL lf rt = [] from by rcases hz with e | e <;> rw [e]; exact joinL_nil _; exact joinL_nilr _]; exact vat⟩
          (fun i σ H' ⟨_, _, _, _, _, _, _, _, _, q, _⟩ => SqL.of q) ?_ ?_⟩⟩
        · rintro i x σ H' hi hx ⟨l', r', m9, m11, m12, rfl, jw', lok', f', hL', hja', vat'⟩
          obtain ⟨y, q, p, hy, rfl, hq, hp⟩ := hja'.get hx
          have ed := drop_of_get hy
          rw [show xs.length - 1 - i + 1 = xs.length - i by omega] at ed
          obtain ⟨L, R, jw2, ok2, sz2, ls, eLs⟩ := jw.dropL (xs.length - 1 - i)
          obtain ⟨Lok, Rok⟩ := ok2 ⟨lok, rok⟩
          have jl2 := jw2
          rw [ed] at jw2
          obtain ⟨k1, w1, l1, r1, k2, w2, l2, r2, rfl, rfl, hc⟩ := jw2.inv
          have enx : xs.length - (i + 1) = xs.length - 1 - i := by omega
          have lj := joinL_len l' r'
          obtain ⟨dx, fs, hins, _, lk⟩ := vat'.ins
          have kokl := joinL_ok l r lok rok lrs
          have layY : ∀ (x : PV.T) (H2 H3 : Hp), joinL (.nd k1 w1 l1 r1) (.nd k2 w2 l2 r2) = joinL l' r' ++ [x] → LayOK (s.lays (joinL l' r')) [x] → Same H' H2 → Fit fp H2 H3 → Vat A .keeper H3 a fp ((s.lays (joinL l' r')).lays [x]) →
              LayOK s (joinL (.nd k1 w1 l1 r1) (.nd k2 w2 l2 r2)) ∧ Fit fp H H3 ∧ H3 wl = some (.lst xs) ∧ JA H3 ys xs ∧ Vat A .keeper H3 a fp (s.lays (joinL (.nd k1 w1 l1 r1) (.nd k2 w2 l2 r2))) := fun x H2 H3 eL lk2 s2 f3 v3 => by
            refine ⟨?_, (f'.trans (.same s2)).trans f3, f3.lst (s2 _ _ hL'), hja'.keep (fun b ys e => f3.tk b ys (s2 _ _ e)), ?_⟩
            · rw [eL]; exact LayOK_app.mpr ⟨lok', lk2⟩
            · rw [eL, lays_app]; exact v3
          have layN : ∀ (x : PV.T) (H2 H3 : Hp) (dd : Addr), joinL (.nd k1 w1 l1 r1) (.nd k2 w2 l2 r2) = joinL l' r' ++ [x] → ¬ LayOK (s.lays (joinL l' r')) [x] → Same H' H2 → Fit fp H2 H3 → ClashAt A H3 (.ref A.cCL) (some dd) → E (.ref A.cCL) (some dd) H3 := fun x H2 H3 dd eL nlk s2 f3 ca => by
            refine kc (fun z => nlk ?_) H3 dd ((f'.trans (.same s2)).trans f3) ca
            rw [eLs, eL] at z
            exact (LayOK_app.mp (LayOK_app.mp z).1).2
          have okx : ∀ (x : PV.T), joinL (.nd k1 w1 l1 r1) (.nd k2 w2 l2 r2) = joinL l' r' ++ [x] → x.ok ∧ ∀ z ∈ joinL l' r', z.ok := fun x eL =>
            ⟨kokl x (by rw [eLs, eL]; simp), fun z hz => kokl z (by rw [eLs, eL]; simp [hz])⟩
          have hown : l'.size + r'.size ≤ 300 → (s.lays (joinL l' r')).own.length ≤ 1000000 := fun hz => by
            have lay0 := layAll_len (joinL l' r') s.own
            show (layAll s.own (joinL l' r')).length ≤ _
            omega
          have jsz := join_size l' r'
          rcases hc with ⟨ca, rfl, hj⟩ | ⟨ca, rfl, hj⟩
          · obtain ⟨e1, e2⟩ := jw'.det hj
            subst e1 e2
            have eL := joinL_first (w1 := w1) (l1 := l1) (r1 := l') (w2 := w2) (l2 := l2) (r2 := r2) ca
            have eJ := join_first (w1 := w1) (l1 := l1) (r1 := l') (w2 := w2) (l2 := l2) (r2 := r2) ca
            obtain ⟨xok, Lsok⟩ := okx _ eL
            obtain ⟨p', kx, wx, e, hp', hk, hw⟩ := nt_shape hp
            cases e
            have es : (((Tr.nd k1 w1 l1 l').size + (Tr.nd k2 w2 l2 r2).size : Nat) : Int) = ((l1.size + (join l' (.nd k2 w2 l2 r2)).size + 1 : Nat) : Int) := by rw [jsz, size_nd]; omega
            refine ⟨q, _, rfl, SqT.of hq, rfl, _, _, rfl, _, _, rfl, _, _, rfl, rfl, _, rfl, _, rfl, iteT ?_⟩
            refine ⟨_, rfl, a, dx, fs, rfl, hins, lk, _, rfl, p, _, _, _, rfl, rfl, SqT.of hp', atI_nat (j := 0) rfl, _, rfl, p, _, _, _, rfl, rfl, SqT.of hp', atI_nat (j := 1) rfl, _, rfl, p, _, _, _, rfl, rfl, SqT.of hp', atI_nat (j := 2) rfl, _, rfl, _, rfl,
              by show 5 ≤ sizeLine; decide, fun t ht => ?_⟩
            have s2 := Same.fresh (o := HO.tup [kx, wx, .int l1.root, .int (join l' (.nd k2 w2 l2 r2)).root, .int (((Tr.nd k1 w1 l1 l').size + (Tr.nd k2 w2 l2 r2).size : Nat) : Int)]) ht
            refine ⟨a, fp, _, _, nt k1 w1 l1 (join l' (.nd k2 w2 l2 r2)), rfl, vat'.same s2, sok.lays Lsok, hown (by rw [size_nd] at sz2; omega), Th.mk_nt upd_same (hk.keep (Same.tk s2)) (hw.keep (Same.tk s2)) rfl rfl es, xok, fun lk2 H3 f3 v3 => ?_, fun nlk H3 dd f3 ca => layN _ _ H3 dd eL nlk s2 f3 ca⟩
            obtain ⟨lok2, f4, hL3, hth3, v4⟩ := layY _ _ H3 eL lk2 s2 f3 v3
            refine ⟨.nd k1 w1 l1 l', .nd k2 w2 l2 r2, some (.int (((Tr.nd k1 w1 l1 l').size + (Tr.nd k2 w2 l2 r2).size : Nat) : Int)), some (.ref p), some (.bl true), ?_, ?_, lok2, f4, hL3, hth3, v4⟩
            · rw [eJ]; rfl
            · rw [enx]; exact jl2
          · obtain ⟨e1, e2⟩ := jw'.det hj
            subst e1 e2
            have eL := joinL_second (w1 := w1) (l1 := l1) (r1 := r1) (w2 := w2) (l2 := r') (r2 := r2) ca
            have eJ := join_second (w1 := w1) (l1 := l1) (r1 := r1) (w2 := w2) (l2 := r') (r2 := r2) ca
            obtain ⟨xok, Lsok⟩ := okx _ eL
            obtain ⟨p', kx, wx, e, hp', hk, hw⟩ := nt_shape hp
            cases e
            have es : (((Tr.nd k1 w1 l1 r1).size + (Tr.nd k2 w2 r' r2).size : Nat) : Int) = (((join (.nd k1 w1 l1 r1) r').size + r2.size + 1 : Nat) : Int) := by rw [jsz, size_nd (k := k2)]; omega
            refine ⟨q, _, rfl, SqT.of hq, rfl, _, _, rfl, _, _, rfl, _, _, rfl, rfl, _, rfl, _, rfl, iteF ?_⟩
            refine ⟨_, rfl, a, dx, fs, rfl, hins, lk, _, rfl, p, _, _, _, rfl, rfl, SqT.of hp', atI_nat (j := 0) rfl, _, rfl, p, _, _, _, rfl, rfl, SqT.of hp', atI_nat (j := 1) rfl, _, rfl, _, rfl, p, _, _, _, rfl, rfl, SqT.of hp', atI_nat (j := 3) rfl, _, rfl,
              by show 5 ≤ sizeLine; decide, fun t ht => ?_⟩
            have s2 := Same.fresh (o := HO.tup [kx, wx, .int (join (.nd k1 w1 l1 r1) r').root, .int r2.root, .int (((Tr.nd k1 w1 l1 r1).size + (Tr.nd k2 w2 r' r2).size : Nat) : Int)]) ht
            refine ⟨a, fp, _, _, nt k2 w2 (join (.nd k1 w1 l1 r1) r') r2, rfl, vat'.same s2, sok.lays Lsok, hown (by rw [size_nd (k := k2)] at sz2; omega), Th.mk_nt upd_same (hk.keep (Same.tk s2)) (hw.keep (Same.tk s2)) rfl rfl es, xok, fun lk2 H3 f3 v3 => ?_, fun nlk H3 dd f3 ca => layN _ _ H3 dd eL nlk s2 f3 ca⟩
            obtain ⟨lok2, f4, hL3, hth3, v4⟩ := layY _ _ H3 eL lk2 s2 f3 v3
            refine ⟨.nd k1 w1 l1 r1, .nd k2 w2 r' r2, some (.int (((Tr.nd k1 w1 l1 r1).size + (Tr.nd k2 w2 r' r2).size : Nat) : Int)), some (.ref p), some (.bl false), ?_, ?_, lok2, f4, hL3, hth3, v4⟩
            · rw [eJ]; rfl
            · rw [enx]; exact jl2
        · rintro σ H' ⟨l', r', m9, m11, m12, rfl, jw', lok', f', hL', hja', vat'⟩
          rw [Nat.sub_self, List.drop_zero] at jw'
          obtain ⟨e1, e2⟩ := jw.det jw'
          subst e1 e2
          exact ⟨_, rfl, kq lok' H' f' vat'⟩
    · obtain ⟨jn1, jn2⟩ := jw.nodes
      have seen : ∀ x, x ∈ l.nodes ∨ x ∈ r.nodes → s.see (sealOf x) = some x := fun x hx => hx.elim (sl x) (sr x)
      cases lf with
      | nil => exact absurd (.inl rfl) hz
      | nd k1 w1 l1 r1 =>
        cases rt with
        | nil => exact absurd (.inr rfl) hz
        | nd k2 w2 l2 r2 =>
          refine ⟨_, rfl, rfl, _, rfl, ?_⟩
          rw [decide_eq_false (show ¬ V.int (Tr.root (.nd k1 w1 l1 r1)) = V.int 0 from fun z => seal_ne _ (V.int.inj z))]
          refine iteT ⟨_, rfl, rfl, _, rfl, ?_⟩
          rw [decide_eq_false (show ¬ V.int (Tr.root (.nd k2 w2 l2 r2)) = V.int 0 from fun z => seal_ne _ (V.int.inj z))]
          refine iteT ⟨_, fun _ _ h => h, ?_⟩
          have e1 : s.see (Tr.root (.nd k1 w1 l1 r1)) = some (nt k1 w1 l1 r1) := seen _ (jn1 _ List.mem_cons_self)
          have e2 : s.see (Tr.root (.nd k2 w2 l2 r2)) = some (nt k2 w2 l2 r2) := seen _ (jn2 _ List.mem_cons_self)
          have z1 := size_nd k1 w1 l1 r1
          have z2 := size_nd k2 w2 l2 r2
          refine ⟨_, rfl, _, rfl, _, rfl, a, fp, s, k1, w1, l1, r1, o1, rfl, vat, sok, hnl, lfok, by omega, c1, .inl e1, fun _ H1 p1 kx1 wx1 f1 v1 hp1 hk1 hw1 => ?_, fun e => by rw [e1] at e; cases e⟩
          rw [keep_rd vat] at v1
          refine ⟨_, rfl, _, rfl, _, rfl, a, fp, s, k2, w2, l2, r2, o2, rfl, v1, sok, hnl, rtok, by omega, c2, .inl e2, fun _ H2 p2 kx2 wx2 f2 v2 hp2 hk2 hw2 => ?_, fun e => by rw [e2] at e; cases e⟩
          rw [keep_rd vat] at v2
          have hp1b := f2.tk _ _ hp1
          have hk1b := hk1.keep f2.tk
          have hw1b := hw1.keep f2.tk
          refine ⟨_, rfl, p1, _, _, _, rfl, rfl, SqT.of hp1b, atI_nat (j := 4) rfl, _, rfl, p2, _, _, _, rfl, rfl, SqT.of hp2, atI_nat (j := 4) rfl, _, _, rfl, rfl, ?_⟩
          refine ⟨_, rfl, p1, _, _, _, rfl, rfl, SqT.of hp1b, atI_nat (j := 0) rfl, _, rfl, p2, _, _, _, rfl, rfl, SqT.of hp2, atI_nat (j := 0) rfl, kx1, kx2, k1, k2, rfl, hk1b, hk2, lfok.1, rtok.1, fun H3 s3 => ⟨_, rfl, ?_⟩⟩
          have fit3 : Fit fp H H3 := ((fit.trans f1).trans f2).trans (.same s3)
          have hL3 := s3 _ _ (f2.lst (f1.lst hL))
          have hja3 := hja.keep (fun b ys e => s3 _ _ (f2.tk b ys (f1.tk b ys e)))
          have v3 := v2.same s3
          have lxs : xs.length < sizeLine := Nat.lt_of_le_of_lt (show _ ≤ 10 ^ 6 by omega) big2
          by_cases ca : aboveT k1 k2 = true
          · rw [ca]
            refine iteT ⟨_, rfl, .inl ⟨rfl, _, SqL.of hL3⟩, _, rfl, _, rfl, by show 3 ≤ sizeLine; decide, fun q hq => ?_⟩
            have s4 := Same.fresh (o := HO.tup [.ref p1, .bl true, .int (((l1.size + r1.size + 1 : Nat) : Int) + ((l2.size + r2.size + 1 : Nat) : Int))]) hq
            have hL4 := s4 _ _ hL3
            refine ⟨wl, _, _, rfl, rfl, hL4, lxs, ?_⟩
            have s5 : NL _ _ := NL.lst (o := HO.lst (xs ++ [V.ref q])) hL4
            have hp5 := s5 _ _ (s4 _ _ (s3 _ _ hp1b)) rfl
            refine ⟨_, rfl, p1, _, _, _, rfl, rfl, SqT.of hp5, atI_nat (j := 4) rfl, _, rfl, p1, _, _, _, rfl, rfl, SqT.of hp5, atI_nat (j := 3) rfl, ?_⟩
            refine ⟨r1.size + (Tr.nd k2 w2 l2 r2).size, by omega, r1, .nd k2 w2 l2 r2, ys ++ [(.nd k1 w1 l1 r1, true, (Tr.nd k1 w1 l1 r1).size + (Tr.nd k2 w2 l2 r2).size)], _, _, _, _, _, _, rfl, jw.trans (.first ca .nil), by omega, by omega, (fit3.trans (.same s4)).own hwl, upd_same, ?_, (v3.same s4).nl s5, rfl⟩
            refine JA.snoc (y := (.nd k1 w1 l1 r1, true, (Tr.nd k1 w1 l1 r1).size + (Tr.nd k2 w2 l2 r2).size)) ?_ (Th.mk_nt hp5 ((hk1b.keep (Same.tk s3)).keep (fun b ys e => s5 _ _ (s4 _ _ e) rfl)) ((hw1b.keep (Same.tk s3)).keep (fun b ys e => s5 _ _ (s4 _ _ e) rfl)) rfl rfl rfl) (hja3.keep (fun b ys e => s5 _ _ (s4 _ _ e) rfl))
            rw [show (((Tr.nd k1 w1 l1 r1).size + (Tr.nd k2 w2 l2 r2).size : Nat) : Int) = ((l1.size + r1.size + 1 : Nat) : Int) + ((l2.size + r2.size + 1 : Nat) : Int) by omega]
            exact s5 _ _ upd_same rfl
          · have cb := ca
            rw [Bool.not_eq_true] at ca
            rw [ca]
            refine iteF ⟨_, rfl, .inl ⟨rfl, _, SqL.of hL3⟩, _, rfl, _, rfl, by show 3 ≤ sizeLine; decide, fun q hq => ?_⟩
            have s4 := Same.fresh (o := HO.tup [.ref p2, .bl false, .int (((l1.size + r1.size + 1 : Nat) : Int) + ((l2.size + r2.size + 1 : Nat) : Int))]) hq
            have hL4 := s4 _ _ hL3
            refine ⟨wl, _, _, rfl, rfl, hL4, lxs, ?_⟩
            have s5 : NL _ _ := NL.lst (o := HO.lst (xs ++ [V.ref q])) hL4
            have hp5 := s5 _ _ (s4 _ _ (s3 _ _ hp2)) rfl
            refine ⟨_, rfl, p2, _, _, _, rfl, rfl, SqT.of hp5, atI_nat (j := 4) rfl, _, rfl, p2, _, _, _, rfl, rfl, SqT.of hp5, atI_nat (j := 2) rfl, ?_⟩
            refine ⟨(Tr.nd k1 w1 l1 r1).size + l2.size, by omega, .nd k1 w1 l1 r1, l2, ys ++ [(.nd k2 w2 l2 r2, false, (Tr.nd k1 w1 l1 r1).size + (Tr.nd k2 w2 l2 r2).size)], _, _, _, _, _, _, rfl, jw.trans (.second cb .nil), by omega, by omega, (fit3.trans (.same s4)).own hwl, upd_same, ?_, (v3.same s4).nl s5, rfl⟩
            refine JA.snoc (y := (.nd k2 w2 l2 r2, false, (Tr.nd k1 w1 l1 r1).size + (Tr.nd k2 w2 l2 r2).size)) ?_ (Th.mk_nt hp5 ((hk2.keep (Same.tk s3)).keep (fun b ys e => s5 _ _ (s4 _ _ e) rfl)) ((hw2.keep (Same.tk s3)).keep (fun b ys e => s5 _ _ (s4 _ _ e) rfl)) rfl rfl rfl) (hja3.keep (fun b ys e => s5 _ _ (s4 _ _ e) rfl))
            rw [show (((Tr.nd k1 w1 l1 r1).size + (Tr.nd k2 w2 l2 r2).size : Nat) : Int) = ((l1.size + r1.size + 1 : Nat) : Int) + ((l2.size + r2.size + 1 : Nat) : Int) by omega]
            exact s5 _ _ upd_same rfl
end
end PV
/-! W5e: cut (over a keeper that has all). -/
namespace PV
open PySem PySem.Spec L2
section
variable {P : Program} {w : World} {K : PySem.W.Frag} {mg : Str → Option Value} {base : Heap} {A : Ad}
def spCU (A : Ad) : Sp := fun vs H Q E => ∃ a fp s t key kv, vs = [.ref a, .int (Tr.root t), kv] ∧ Vat A .keeper H a fp s ∧ s.Ok ∧ s.noted.length ≤ 1000000 ∧ s.own.length ≤ 800000 ∧ t.Ok ∧ t.size ≤ 300 ∧ Th H key kv ∧ key.keyB = true ∧ Seen s t.nodes ∧
  (cutO t key = none → ∀ H', Fit fp H H' → Vat A .keeper H' a fp s → Q (.int t.root) H') ∧
  (∀ u ls, cutO t key = some (u, ls) → LayOK s ls → ∀ H', Fit fp H H' → Vat A .keeper H' a fp (s.lays ls) → Q (.int u.root) H') ∧
  (∀ u ls, cutO t key = some (u, ls) → ¬ LayOK s ls → ∀ H' dd, Fit fp H H' → ClashAt A H' (.ref A.cCL) (some dd) → E (.ref A.cCL) (some dd) H')
theorem sc_CU : FnScope ["vault", "root", "key", "whole", "way", "count", "node"] ["vault", "root", "key"] (defScope (top 51)) := ⟨rfl, rfl, rfl, by decide +kernel, rfl, by decide +kernel, by decide +kernel⟩
theorem ok_CU (T : Txt K mg A) : Okf P w K mg base (L2.CX P w) 10 A.fCU ["vault", "root", "key"] (spCU A) := by
  obtain ⟨fd, F, b⟩ := T.d_cut
  refine ⟨fd, F.okX sc_CU (fun vs H Q E h => ?_) (fun cdv Ar outer s H vs Q E hr h => ?_), b⟩
  · obtain ⟨a, fp, s, t, key, kv, rfl, _⟩ := h; rfl
  · obtain ⟨a, fp, s, t, key, kv, rfl, hv, sok, hnl, hol, tok, ts, hkv, hkey, hall, k0, kq, kc⟩ := h
    have nd := sc_CU.nd
    refine ⟨_, pss_cons (ps_set (i := 3) nd rfl (.inl rfl) (pv 1))
      (pss_cons (ps_set (i := 4) nd rfl (.inl rfl) (pe_lst pa_nil))
      (pss_cons (ps_set (i := 5) nd rfl (.inl rfl) (pe_cst (by rfl) T.c_UNBOUND))
      (pss_cons (ps_while (passes_of rfl) (pt_cmpR op_ne (pv 1) pe_int (nomark _))
        (pss_cons (ps_set (i := 6) nd rfl (.inl rfl) (pe_callO (ok_NB T .keeper) hr (by rfl) T.g_node_beneath T.d_node_beneath.kp (up (takes_of rfl rfl rfl rfl)) (pa_cons (pv 0) (pa_cons (pv 1) (pa_cons (pv 5) pa_nil)))))
        (pss_cons (ps_if (pt_cmpR op_eq (pe_ix ix_tup (pv 6) pe_int (fun _ _ => rfl)) (pv 2) (nomark _))
          (pss_one (ps_ret (pe_callO (ok_RE T .keeper) hr (by rfl) T.g_rebuilt T.d_rebuilt.kp (up (takes_of rfl rfl rfl rfl)) (pa_cons (pv 0) (pa_cons (pv 4) (pa_cons (pv 2) (pa_cons
            (pe_callO (ok_JO T) hr (by rfl) T.g_joined T.d_joined.kp (up (takes_of rfl rfl rfl rfl)) (pa_cons (pv 0) (pa_cons (pe_ix ix_tup (pv 6) pe_int (fun _ _ => rfl)) (pa_cons (pe_ix ix_tup (pv 6) pe_int (fun _ _ => rfl)) (pa_cons (pe_ix ix_tup (pv 6) pe_int (fun _ _ => rfl)) pa_nil)))))
            (pa_cons (pe_un un_neg pe_int) pa_nil)))))))) pss_nil)
        (pss_cons (ps_expr (pe_bm PySem.F.plainAttrs_list PySem.F.slot_list_append PySem.F.type_list_append mt_append (pv 4) (pa_cons (pv 6) pa_nil)))
        (pss_cons (ps_set (i := 5) nd rfl (.inl rfl) (pe_ix ix_tup (pv 6) pe_int (fun _ _ => rfl)))
        (pss_cons (ps_set (i := 1) nd rfl (.inl rfl) (pe_ix ix_tup (pv 6) pe_int (fun _ _ => rfl)))
        (pss_one (ps_if (pt_val (pe_callO (ok_ahead T) hr (by rfl) T.g_ahead T.d_ahead.kp no0 (pa_cons (pv 2) (pa_cons (pe_ix ix_tup (pv 6) pe_int (fun _ _ => rfl)) pa_nil))))
          (pss_one (ps_set (i := 1) nd rfl (.inl rfl) (pe_ix ix_tup (pv 6) pe_int (fun _ _ => rfl)))) pss_nil))))))))
      (pss_one (ps_ret (pv 3)))))), ?_⟩
    refine ⟨_, rfl, Nat.zero_le _, fun wl hwl => ?_⟩
    refine ⟨fun m σ H' => ∃ trs c cnt nv xs, σ = [some (.ref a), some (.int (Tr.root c)), some kv, some (.int (Tr.root t)), some (.ref wl), some (.int cnt), nv] ∧ CutAt key t trs c ∧
      (c.size : Int) < cnt ∧ Fit fp H H' ∧ H' wl = some (.lst xs) ∧ ThA H' (trs.map Tr.th) xs ∧ Vat A .keeper H' a fp s ∧ m = c.size,
      ⟨t.size, [], t, 301, none, [], rfl, .start, by omega, Fit.same (Same.fresh hwl), upd_same, rfl, hv.same (Same.fresh hwl), rfl⟩, ?_⟩
    rintro m σ H' ⟨trs, c, cnt, nv, xs, rfl, cat, ccnt, fit, hL, hth, vat, rfl⟩
    refine ⟨_, rfl, rfl, _, rfl, ?_⟩
    have cle := cat.ch.le
    have cok := cat.ch.ok tok
    have xl := hth.len
    rw [List.length_map] at xl
    cases c with
    | nil =>
      rw [decide_eq_true (show V.int (Tr.root .nil) = V.int 0 from rfl)]
      exact iteF ⟨_, rfl, k0 (by rw [cat.cut]; rfl) H' fit vat⟩
    | nd kk ww l r =>
      rw [decide_eq_false (show ¬ V.int (Tr.root (.nd kk ww l r)) = V.int 0 from fun z => seal_ne _ (V.int.inj z))]
      refine iteT ⟨_, fun _ _ h => h, ?_⟩
      have e1 : s.see (Tr.root (.nd kk ww l r)) = some (nt kk ww l r) := hall _ (cat.ch.nodes _ List.mem_cons_self)
      refine ⟨_, rfl, _, rfl, _, rfl, a, fp, s, kk, ww, l, r, cnt, rfl, vat, sok, hnl, cok, by omega, ccnt, .inl e1, fun _ H1 p kx wx f1 v1 hp hk hw => ?_, fun e => by rw [e1] at e; cases e⟩
      rw [keep_rd vat] at v1
      have hL1 := f1.lst hL
      have hth1 := hth.keep f1.tk
      have fit1 := fit.trans f1
      have kok := cok.1
      obtain ⟨sc1, sc2⟩ := key_scal hk (hkv.key (H' := H1) hkey) kok hkey
      refine ⟨_, rfl, p, _, _, _, rfl, rfl, SqT.of hp, atI_nat (j := 0) rfl, _, rfl, sc1, _, rfl, ?_⟩
      rw [sc2]
      by_cases c1 : kk = key
      · rw [decide_eq_true c1]
        have eC : cutO t key = some (plug key trs (join l r), joinL l r ++ plugL key trs (join l r)) := by rw [cat.cut, cutO, if_pos c1]; rfl
        obtain ⟨uok, us, ulen, uall, _⟩ := cut_facts eC tok ts
        have z1 := size_nd kk ww l r
        have jsz := join_size l r
        have jl := joinL_len l r
        refine iteT ⟨_, rfl, _, rfl, _, rfl, _, rfl, _, rfl, p, _, _, _, rfl, rfl, SqT.of hp, atI_nat (j := 2) rfl, _, rfl, p, _, _, _, rfl, rfl, SqT.of hp, atI_nat (j := 3) rfl, _, rfl, p, _, _, _, rfl, rfl, SqT.of hp, atI_nat (j := 4) rfl, ?_⟩
        refine ⟨a, fp, s, l, r, _, rfl, v1, sok, hnl, by omega, cok.2.2.2.1, cok.2.2.2.2, by omega, by omega, by omega, fun x hx => hall x (cat.ch.nodes x (List.mem_cons_of_mem _ (List.mem_append_left _ hx))), fun x hx => hall x (cat.ch.nodes x (List.mem_cons_of_mem _ (List.mem_append_right _ hx))), fun l1 H2 f2 v2 => ?_, fun nl H2 dd f2 ca => ?_⟩
        · have o1 : (s.lays (joinL l r)).own.length ≤ 900000 := by
            have q := layAll_len (joinL l r) s.own
            show (layAll s.own (joinL l r)).length ≤ _
            omega
          refine ⟨_, rfl, a, fp, _, wl, xs, trs, key, kv, t, .nd kk ww l r, join l r, -1, rfl, v2, sok.lays (fun x hx => uall x (List.mem_append_left _ hx)), by omega, f2.lst hL1, hth1.keep f2.tk, cat.ch, tok, ts, by omega, by omega, join_ok l r cok.2.2.2.1 cok.2.2.2.2, by omega, hkv.key hkey, hkey, fun l3 H3 f3 v3 => ?_, fun nl H3 dd f3 ca => ?_⟩
          · rw [← lays_app] at v3
            exact kq _ _ eC (LayOK_app.mpr ⟨l1, l3⟩) H3 ((fit1.trans f2).trans f3) v3
          · exact kc _ _ eC (fun z => nl (LayOK_app.mp z).2) H3 dd ((fit1.trans f2).trans f3) ca
        · exact kc _ _ eC (fun z => nl (LayOK_app.mp z).1) H2 dd (fit1.trans f2) ca
      · rw [decide_eq_false c1]
        have npw : p ≠ wl := ne_of hp hL1 (by intro z; cases z)
        have nl2 : NL H1 (upd H1 wl (.lst (xs ++ [.ref p]))) := NL.lst hL1
        have hp3 : upd H1 wl (.lst (xs ++ [.ref p])) p = some (.tup [kx, wx, .int l.root, .int r.root, .int ((l.size + r.size + 1 : Nat) : Int)]) := by rw [upd_ne npw]; exact hp
        refine iteF ⟨_, rfl, .inl ⟨rfl, _, SqL.of hL1⟩, _, rfl, wl, _, _, rfl, rfl, hL1, ?_, ?_⟩
        · exact Nat.lt_of_le_of_lt (show _ ≤ 10 ^ 6 by omega) big2
        · refine ⟨_, rfl, p, _, _, _, rfl, rfl, SqT.of hp3, atI_nat (j := 4) rfl, _, rfl, p, _, _, _, rfl, rfl, SqT.of hp3, atI_nat (j := 3) rfl, ?_⟩
          refine ⟨_, rfl, _, rfl, p, _, _, _, rfl, rfl, SqT.of hp3, atI_nat (j := 0) rfl, kv, kx, key, kk, rfl, hkv.key hkey, hk.keep nl2.tk, hkey, kok, _, rfl, ?_⟩
          have cs' : (ch key (.nd kk ww l r)).size < (Tr.nd kk ww l r).size := by rw [ch, size_nd]; split <;> omega
          have etk : (trs ++ [Tr.nd kk ww l r]).map Tr.th = trs.map Tr.th ++ [nt kk ww l r] := by rw [List.map_append]; rfl
          have nxt : ∀ n, n = (ch key (.nd kk ww l r)).root → ∃ m', m' < (Tr.nd kk ww l r).size ∧ ∃ trs c cnt nv xs2, [some (V.ref a), some (.int n), some kv, some (.int (Tr.root t)), some (.ref wl), some (.int ((l.size + r.size + 1 : Nat) : Int)), some (.ref p)] = [some (.ref a), some (.int (Tr.root c)), some kv, some (.int (Tr.root t)), some (.ref wl), some (.int cnt), nv] ∧ CutAt key t trs c ∧
              (c.size : Int) < cnt ∧ Fit fp H (upd H1 wl (.lst (xs ++ [.ref p]))) ∧ (upd H1 wl (.lst (xs ++ [.ref p]))) wl = some (.lst xs2) ∧ ThA (upd H1 wl (.lst (xs ++ [.ref p]))) (trs.map Tr.th) xs2 ∧ Vat A .keeper (upd H1 wl (.lst (xs ++ [.ref p]))) a fp s ∧ m' = c.size := fun n en => by
            subst en
            refine ⟨_, cs', trs ++ [.nd kk ww l r], _, _, _, _, rfl, cat.step c1, by rw [size_nd] at cs'; omega, fit1.own hwl, upd_same, ?_, v1.nl nl2, rfl⟩
            rw [etk]
            exact (hth1.keep nl2.tk).snoc (Th.mk_nt hp3 (hk.keep nl2.tk) (hw.keep nl2.tk) rfl rfl rfl)
          by_cases ca : aheadT key kk = true
          · rw [ca]
            refine iteT ⟨_, rfl, p, _, _, _, rfl, rfl, SqT.of hp3, atI_nat (j := 2) rfl, nxt _ ?_⟩
            rw [ch, if_pos ca]
          · have cb := ca
            rw [Bool.not_eq_true] at ca
            rw [ca]
            refine iteF (nxt _ ?_)
            rw [ch, if_neg cb]
end
end PV
/-! W6: Put, answer_with_paper, checked, clash_of. -/
namespace PV
open PySem PySem.Spec L2
section
variable {P : Program} {w : World} {K : PySem.W.Frag} {mg : Str → Option Value} {base : Heap} {A : Ad}
def fsPut (kv wv : V) : List (Str × V) := [(("key" : Str), kv), ("worth", wv)]
theorem lookPut_key {kv wv : V} : (fsPut kv wv).lookup ("key" : Str) = some kv := by unfold fsPut; rw [look_cons, if_pos rfl]
theorem lookPut_worth {kv wv : V} : (fsPut kv wv).lookup ("worth" : Str) = some wv := by unfold fsPut; rw [look_cons, if_neg (by decide +kernel), look_cons, if_pos rfl]
theorem lookPut_ans {kv wv : V} : (fsPut kv wv).lookup ("answer" : Str) = none := by unfold fsPut; rw [look_cons, if_neg (by decide +kernel), look_cons, if_neg (by decide +kernel)]; rfl
theorem put_worth {kv wv : V} : putF "worth" wv [(("key" : Str), kv)] = fsPut kv wv := by
  show (if ("key" : Str) = "worth" then _ else (("key" : Str), kv) :: putF "worth" wv []) = _
  rw [if_neg (by decide +kernel)]
  rfl
/-- a Put at x -/
def AskAt (A : Ad) (H : Hp) (x : Addr) (key wo : PV.T) : Prop := ∃ dx kv wv, H x = some (.ins A.cPut dx (fsPut kv wv)) ∧ Th H key kv ∧ Th H wo wv
theorem AskAt.nl {H H' : Hp} {x : Addr} {key wo : PV.T} (h : AskAt A H x key wo) (k : NL H H') : AskAt A H' x key wo := by
  obtain ⟨dx, kv, wv, h1, h2, h3⟩ := h
  exact ⟨dx, kv, wv, k _ _ h1 rfl, h2.keep k.tk, h3.keep k.tk⟩
theorem AskAt.same {H H' : Hp} {x : Addr} {key wo : PV.T} (h : AskAt A H x key wo) (k : Same H H') : AskAt A H' x key wo := h.nl (.same k)
def spPi (A : Ad) : Sp := fun vs H Q _ => ∃ p kv wv dx, vs = [.ref p, kv, wv] ∧ H p = some (.ins A.cPut dx []) ∧ ∀ H', (∀ c o, H c = some o → c ≠ p → H' c = some o) → H' p = some (.ins A.cPut dx (fsPut kv wv)) → Q .non H'
theorem sc_Pi : FnScope ["self", "key", "worth"] ["self", "key", "worth"] (defScope (inClass (top 54) 0)) := ⟨rfl, rfl, rfl, by decide +kernel, rfl, by decide +kernel, by decide +kernel⟩
theorem ok_Pi (T : Txt K mg A) : Okf P w K mg base CX0 1 A.fPi ["self", "key", "worth"] (spPi A) := by
  obtain ⟨fd, F, b⟩ := T.d_Put_init
  refine ⟨fd, F.ok sc_Pi (fun vs H Q E h => ?_) (fun cdv Ar outer s H vs Q E hr h => ?_), b⟩
  · obtain ⟨p, kv, wv, dx, rfl, _⟩ := h; rfl
  · obtain ⟨p, kv, wv, dx, rfl, hp, k⟩ := h
    refine ⟨_, pss_cons (ps_fld (pv 0) (pv 1) rfl) (pss_one (ps_fld (pv 0) (pv 2) rfl)), ?_⟩
    refine ⟨_, rfl, _, rfl, p, A.cPut, dx, _, rfl, hp, T.i_cPut, T.n_cPut_key, by show 0 < 1000; decide, ?_⟩
    refine ⟨_, rfl, _, rfl, p, A.cPut, dx, _, rfl, upd_same, T.i_cPut, T.n_cPut_worth, by show 1 < 1000; decide, ?_⟩
    refine k _ (fun c o q ne => by rw [upd_ne ne, upd_ne ne]; exact q) ?_
    rw [upd_same]
    congr 2
def spPa (A : Ad) (kd : Kd) : Sp := fun vs H Q E => ∃ x a fp s t key wo, vs = [.ref x, .ref a, .int (Tr.root t)] ∧ AskAt A H x key wo ∧ Vat A kd H a fp s ∧ s.Ok ∧ s.noted.length ≤ 900000 ∧ s.own.length ≤ 900000 ∧ t.Ok ∧ t.size ≤ 299 ∧ key.keyB = true ∧
  wo.within 1 = true ∧ wo ≠ .non ∧ SeenOr s (putR t key) ∧
  (Seen s (putR t key) → LayOK s (putL t key wo) → ∀ H', Fit fp H H' → Vat A kd H' a fp ((s.rds (putR t key)).lays (putL t key wo)) → Q (.int (put t key wo).root) H') ∧
  (Seen s (putR t key) → ¬ LayOK s (putL t key wo) → ∀ H' dd, Fit fp H H' → ClashAt A H' (.ref A.cCL) (some dd) → E (.ref A.cCL) (some dd) H') ∧
  (Lost s (putR t key) → ∀ H', Fit fp H H' → E (.ref A.cNP) none H')
theorem sc_Pa : FnScope ["self", "vault", "root"] ["self", "vault", "root"] (defScope (inClass (top 54) 1)) := ⟨rfl, rfl, rfl, by decide +kernel, rfl, by decide +kernel, by decide +kernel⟩
theorem ok_Pa (T : Txt K mg A) (kd : Kd) : Okf P w K mg base (L2.CX P w) 11 A.fPa ["self", "vault", "root"] (spPa A kd) := by
  obtain ⟨fd, F, b⟩ := T.d_Put_answer
  refine ⟨fd, F.okX sc_Pa (fun vs H Q E h => ?_) (fun cdv Ar outer s H vs Q E hr h => ?_), b⟩
  · obtain ⟨x, a, fp, s, t, key, wo, rfl, _⟩ := h; rfl
  · obtain ⟨x, a, fp, s, t, key, wo, rfl, ⟨dx, kv, wv, hx, hk, hw⟩, hv, sok, h1, h2, h3, h4, h5, h6, h7, h8, k1, k2, k3⟩ := h
    refine ⟨_, pss_one (ps_ret (pe_callO (ok_PU T kd) hr (by rfl) T.g_put T.d_put.kp (up (takes_of rfl rfl rfl rfl)) (pa_cons (pv 1) (pa_cons (pv 2) (pa_cons (pe_fld (pv 0) rfl) (pa_cons (pe_fld (pv 0) rfl) pa_nil)))))), ?_⟩
    exact ⟨_, rfl, _, rfl, _, rfl, x, A.cPut, dx, _, _, rfl, hx, T.i_cPut, T.n_cPut_key, lookPut_key, _, rfl, x, A.cPut, dx, _, _, rfl, hx, T.i_cPut, T.n_cPut_worth, lookPut_worth,
      a, fp, s, t, key, wo, kv, wv, rfl, hv, sok, h1, h2, h3, h4, hk, h5, hw, h6, h7, h8, k1, k2, k3⟩

/-! ### answer_with_paper -/
theorem rds_readS (m : M) : ∀ (l : List PV.T) (n : M), (VS.rds ⟨[], some m, n⟩ l) = ⟨[], some m, layAll n l⟩
  | [], n => rfl
  | t :: l, n => by
    show VS.rds (VS.rd ⟨[], some m, n⟩ t) l = _
    have e : VS.rd ⟨[], some m, n⟩ t = ⟨[], some m, n.put (sealOf t) t⟩ := rfl
    rw [e, rds_readS m l]
    rfl
theorem Same.fit {fp : List Addr} {H H1 H2 : Hp} (s : Same H H1) (f : Fit fp H1 H2) (h : ∀ b ∈ fp, H b = none) : Same H H2 := fun b o e => f b o (s b o e) (.inl fun hb => by rw [h b hb] at e; cases e)
theorem readS_ok {m : M} (h : Mok m) : (readS m).Ok := ⟨.nil, fun m' e => by cases e; exact h, .nil⟩
theorem plainS_ok {m : M} (h : Mok m) : (plainS m).Ok := ⟨h, fun m' e => (nomatch e), .nil⟩
theorem see_readS (m : M) (n : Int) : (readS m).see n = M.get m n := rfl
theorem see_plainS (m : M) (n : Int) : (plainS m).see n = M.get m n := plain_see rfl n
def Wor (wo : PV.T) : Prop := wo.within 1 = true ∧ wo ≠ .non
def spAP (A : Ad) : Sp := fun vs H Q E => ∃ kp d m t x key wo, vs = [.ref kp, .int (Tr.root t), .ref x] ∧ PlainAt A.cK H kp d m ∧ Mok m ∧ m.length ≤ 900000 ∧ t.Ok ∧ t.size ≤ 299 ∧ AskAt A H x key wo ∧ key.keyB = true ∧ Wor wo ∧ (∀ y ∈ t.nodes, M.get m (sealOf y) = some y) ∧
  (LayOK (readS m) (putL t key wo) → ∀ H' p l xs, Same H H' → H l = none → H' p = some (.tup [.int (put t key wo).root, .ref l]) → H' l = some (.lst xs) → ThA H' (things (layAll [] (putR t key))) xs → Q (.ref p) H') ∧
  (¬ LayOK (readS m) (putL t key wo) → ∀ H' dd, Same H H' → ClashAt A H' (.ref A.cCL) (some dd) → E (.ref A.cCL) (some dd) H')
theorem sc_AP : FnScope ["keeper", "root", "ask", "reader", "told"] ["keeper", "root", "ask"] (defScope (top 32)) := ⟨rfl, rfl, rfl, by decide +kernel, rfl, by decide +kernel, by decide +kernel⟩
theorem putR_ok2 {m : M} (mok : Mok m) {t : Tr} {key : PV.T} (h : ∀ y ∈ t.nodes, M.get m (sealOf y) = some y) : ∀ x ∈ putR t key, x.ok := fun x hx => (mok.at (h x (putR_nodes x hx))).2
theorem ok_AP (T : Txt K mg A) : Okf P w K mg base (L2.CX P w) 12 A.fAP ["keeper", "root", "ask"] (spAP A) := by
  obtain ⟨fd, F, b⟩ := T.d_answer_with_paper
  refine ⟨fd, F.okX sc_AP (fun vs H Q E h => ?_) (fun cdv Ar outer s H vs Q E hr h => ?_), b⟩
  · obtain ⟨kp, d, m, t, x, key, wo, rfl, _⟩ := h; rfl
  · obtain ⟨kp, d, m, t, x, key, wo, rfl, hk, mok, hlen, tok, ts, ask, kb, wor, hin, kq, kc⟩ := h
    have nd := sc_AP.nd
    refine ⟨_, pss_cons (ps_set (i := 3) nd rfl (.inl rfl) (pe_makeO T.k_cR (ok_Ri T) hr (by rfl) T.g_Reader pass0 (pa_cons (pv 0) pa_nil)))
      (pss_cons (ps_set (i := 4) nd rfl (.inl rfl) (pe_methO (pv 2) T.i_cPut T.m_cPut_answer (ok_Pa T .reader) hr (up (takes_of rfl rfl rfl rfl)) (pa_cons (pv 3) (pa_cons (pv 1) pa_nil))))
      (pss_one (ps_ret (pe_tup (pa_cons (pv 4) (pa_cons (pe_methO0 (pv 3) T.i_cR T.m_cR_paper (ok_Rp T) hr no0) pa_nil)))))), ?_⟩
    unfold tSeq tAsg
    refine make_reader T hk (fun Q' q => ⟨_, rfl, q⟩) fun H1 rp d1 e1 s1 hrp hd1 he1 v1 => ?_
    obtain ⟨dx, kv, wv, hx, _, _⟩ := ask.same s1
    have rl := putR_len t key
    refine ⟨_, rfl, x, dx, _, rfl, hx, lookPut_ans, _, rfl, _, rfl, x, rp, [d1, e1], readS m, t, key, wo, rfl, ask.same s1, v1, readS_ok mok, Nat.zero_le _, Nat.zero_le _, tok, ts, kb, wor.1, wor.2, fun y hy => .inl ?_, fun sn lok H2 f2 v2 => ?_, fun sn nlk H2 dd f2 ca => ?_, fun lost => ?_⟩
    · rw [see_readS]; exact hin y (putR_nodes y hy)
    · have s2 : Same H H2 := Same.fit s1 f2 (fun b hb => by rcases List.mem_cons.mp hb with e | hb; rw [e]; exact hd1; rw [List.mem_singleton.mp hb]; exact he1)
      have okR := putR_ok2 mok hin (key := key)
      have sok2 : (((readS m).rds (putR t key)).lays (putL t key wo)).Ok := ((readS_ok mok).rds okR).lays (putL_ok tok ts kb wor.1 wor.2)
      obtain ⟨dx3, fs3, hins3, _, _⟩ := v2.ins
      have lkp : fs3.lookup ("paper" : Str) = none := by
        obtain ⟨d3, e3, _, dx4, b4, bd4, m4, h4, _⟩ := v2
        rw [hins3] at h4
        injection h4 with h4
        injection h4 with _ _ h4
        rw [h4]
        exact lookR_no (by decide +kernel) (by decide +kernel) (by decide +kernel)
      have en : (((readS m).rds (putR t key)).lays (putL t key wo)).noted = layAll [] (putR t key) := by
        show ((readS m).rds (putR t key)).noted = _
        unfold readS
        rw [rds_readS]
      refine ⟨_, rfl, _, rfl, rp, dx3, fs3, rfl, hins3, lkp, rp, _, _, rfl, v2, sok2, ?_, fun H3 l xs s3 hl hxs hth => ?_⟩
      · rw [en]
        have q := layAll_len (putR t key) []
        have q0 : ([] : M).length = 0 := rfl
        omega
      · rw [en] at hth
        refine ⟨by show 2 ≤ sizeLine; decide, fun p hp => ?_⟩
        have s4 := Same.fresh (o := HO.tup [.int (put t key wo).root, .ref l]) hp
        exact kq lok _ p l xs (Same.trans (Same.trans s2 s3) s4) (s2.free hl) upd_same (s4 _ _ hxs) (hth.keep (Same.tk s4))
    · exact kc nlk H2 dd (Same.fit s1 f2 (fun b hb => by rcases List.mem_cons.mp hb with e | hb; rw [e]; exact hd1; rw [List.mem_singleton.mp hb]; exact he1)) ca
    · obtain ⟨y, hy, e⟩ := lost
      rw [see_readS, hin y (putR_nodes y hy)] at e
      cases e
end
end PV
/-! W6b: checked, clash_of, shown. -/
namespace PV
open PySem PySem.Spec L2
section
variable {P : Program} {w : World} {K : PySem.W.Frag} {mg : Str → Option Value} {base : Heap} {A : Ad}
/-- a list of things of a paper at l -/
def PapAt (H : Hp) (l : Addr) (ts : List PV.T) : Prop := ∃ xs, H l = some (.lst xs) ∧ ThA H ts xs
theorem PapAt.same {H H' : Hp} {l : Addr} {ts : List PV.T} (h : PapAt H l ts) (k : Same H H') : PapAt H' l ts := by
  obtain ⟨xs, h1, h2⟩ := h
  exact ⟨xs, k _ _ h1, h2.keep (Same.tk k)⟩
structure POk (ts : List PV.T) : Prop where
  ok : ∀ t ∈ ts, t.ok
  nd : (ts.map sealOf).Nodup
  len : ts.length ≤ 900000
theorem POk.mok {ts : List PV.T} (h : POk ts) : Mok (layAll [] ts) := layAll_ok .nil h.ok
theorem POk.mlen {ts : List PV.T} (h : POk ts) : (layAll [] ts).length ≤ 900000 := by
  have q := layAll_len ts []
  have q0 : ([] : M).length = 0 := rfl
  have q1 := h.len
  omega
def spCH (A : Ad) : Sp := fun vs H Q E => ∃ t x l ts key wo, vs = [.int (Tr.root t), .ref x, .ref l] ∧ PapAt H l ts ∧ POk ts ∧ t.Ok ∧ t.size ≤ 299 ∧ AskAt A H x key wo ∧ key.keyB = true ∧ Wor wo ∧ SeenOr (plainS (layAll [] ts)) (putR t key) ∧
  (Seen (plainS (layAll [] ts)) (putR t key) → LayOK (plainS (layAll [] ts)) (putL t key wo)) ∧
  (Seen (plainS (layAll [] ts)) (putR t key) → ∀ H', Same H H' → Q (.int (put t key wo).root) H') ∧
  (Lost (plainS (layAll [] ts)) (putR t key) → ∀ H', Same H H' → E (.ref A.cNP) none H')
theorem sc_CH : FnScope ["root", "ask", "some"] ["root", "ask", "some"] (defScope (top 33)) := ⟨rfl, rfl, rfl, by decide +kernel, rfl, by decide +kernel, by decide +kernel⟩
theorem ok_CH (T : Txt K mg A) : Okf P w K mg base (L2.CX P w) 12 A.fCH ["root", "ask", "some"] (spCH A) := by
  obtain ⟨fd, F, b⟩ := T.d_checked
  refine ⟨fd, F.okX sc_CH (fun vs H Q E h => ?_) (fun cdv Ar outer s H vs Q E hr h => ?_), b⟩
  · obtain ⟨t, x, l, ts, key, wo, rfl, _⟩ := h; rfl
  · obtain ⟨t, x, l, ts, key, wo, rfl, ⟨xs, hl, hth⟩, pok, tok, hts, ask, kb, wor, so, lok, kq, kn⟩ := h
    refine ⟨_, pss_one (ps_ret (pe_methO (pv 1) T.i_cPut T.m_cPut_answer (ok_Pa T .witness) hr (up (takes_of rfl rfl rfl rfl)) (pa_cons (pe_makeO T.k_cW (ok_Wi T) hr (by rfl) T.g_Witness pass0 (pa_cons (pv 2) pa_nil)) (pa_cons (pv 0) pa_nil)))), ?_⟩
    obtain ⟨dx, kv, wv, hx, _, _⟩ := ask
    refine ⟨_, rfl, x, dx, _, rfl, hx, lookPut_ans, ?_⟩
    unfold tCons
    refine make_witness T hl hth pok.ok pok.nd (Nat.le_trans pok.len (by decide)) (fun Q' q => ⟨_, rfl, q⟩) fun H1 wp d s1 hwp hd v1 => ?_
    exact ⟨_, rfl, x, wp, [d], _, t, key, wo, rfl, AskAt.same ⟨dx, kv, wv, hx, ‹_›, ‹_›⟩ s1, v1, plainS_ok pok.mok, Nat.zero_le _, pok.mlen, tok, hts, kb, wor.1, wor.2, so,
      fun sn _ H2 f2 _ => kq sn H2 (Same.fit s1 f2 fun b hb => by rw [List.mem_singleton.mp hb]; exact hd), fun sn nl => absurd (lok sn) nl, fun lost H2 f2 => kn lost H2 (Same.fit s1 f2 fun b hb => by rw [List.mem_singleton.mp hb]; exact hd)⟩
/-! ### clash_of, the keeper empty -/
def spCO2 (A : Ad) : Sp := fun vs H Q _ => ∃ l ts kp d, vs = [.ref l, .ref kp] ∧ PapAt H l ts ∧ POk ts ∧ PlainAt A.cK H kp d [] ∧ ∀ H', Same H H' → Q .non H'
theorem sc_CO2 : FnScope ["paper", "keeper", "kept", "thing", "best", "found", "number"] ["paper", "keeper"] (defScope (top 35)) := ⟨rfl, rfl, rfl, by decide +kernel, rfl, by decide +kernel, by decide +kernel⟩
theorem ok_CO2 (T : Txt K mg A) : Okf P w K mg base CX0 6 A.fCO2 ["paper", "keeper"] (spCO2 A) := by
  obtain ⟨fd, F, b⟩ := T.d_clash_of
  refine ⟨fd, F.ok sc_CO2 (fun vs H Q E h => ?_) (fun cdv Ar outer s H vs Q E hr h => ?_), b⟩
  · obtain ⟨l, ts, kp, d, rfl, _⟩ := h; rfl
  · obtain ⟨l, ts, kp, d, rfl, ⟨xs, hl, hth⟩, pok, hk, k⟩ := h
    have nd := sc_CO2.nd
    refine ⟨_, pss_cons (ps_set (i := 2) nd rfl (.inl rfl) pe_dnewK)
      (pss_cons (ps_for PassesOwn.never rfl (pi_list (pe_methO0 (pv 1) T.i_cK T.m_cK_things (ok_Kt T) hr no0)) (pg_name (i := 3) nd rfl (.inl rfl)) pss_never)
      (pss_cons (ps_set (i := 4) nd rfl (.inl rfl) pe_int)
      (pss_cons (ps_set (i := 5) nd rfl (.inl rfl) pe_non)
      (pss_cons (ps_for PassesOwn.never rfl (pi_list (pv 0)) (pg_name (i := 3) nd rfl (.inl rfl))
        (pss_cons (ps_set (i := 6) nd rfl (.inl rfl) (pe_callO (ok_seal T) hr (by rfl) T.g_seal T.d_seal.kp no0 (pa_cons (pv 3) pa_nil)))
        (pss_one (ps_if (PW.pt (pw_and (pt_cmp (pc_din (hu_of hr) (pv 6) (pv 2))) (pw_and (pt_cmpR (op_neD hr.units) (pe_dget (hu_of hr) (pv 2) (pv 6) (fun _ _ => rfl)) (pv 3) (nomark _)) (pw_and1 (PW.pt (pw_or (pt_cmp (pc_isN (pv 5))) (pw_or1 (pt_cmpR op_lt (pv 6) (pv 4) (nomark _)))))))))
          pss_never pss_nil))))
      (pss_one (ps_ret (pv 5))))))), ?_⟩
    intro d0 hd0
    have s0 := Same.fresh (o := HO.dK []) hd0
    have hk1 := hk.nl (.same s0)
    obtain ⟨dx, hkp, dm⟩ := id hk1
    refine ⟨_, rfl, kp, dx, _, rfl, hkp, lookP_no (by decide +kernel), kp, d, [], rfl, hk1, .nil, Nat.zero_le _, fun H1 p ys s1 hp hys hth1 => ?_⟩
    rw [things_nil] at hth1
    have e0 : ys = [] := hth1
    subst e0
    refine ⟨p, rfl, ⟨_, SqL.of hys⟩, for_list (K := K) (a := p) (xs := []) (fun i σ H' => σ = [some (.ref l), some (.ref kp), some (.ref d0), none, none, none, none] ∧ H' = H1) ⟨rfl, rfl⟩ (fun i σ H' _ ⟨_, e⟩ => by rw [e]; exact SqL.of hys) (fun i x σ H' hi => by simp at hi) ?_⟩
    rintro σ H' ⟨rfl, rfl⟩
    have s01 : Same H H' := Same.trans s0 s1
    refine ⟨_, rfl, l, rfl, ⟨_, SqL.of (s01 _ _ hl)⟩, for_list (K := K) (a := l) (xs := xs) (fun i σ H2 => ∃ n3 n6, σ = [some (.ref l), some (.ref kp), some (.ref d0), n3, some (.int 0), some .non, n6] ∧ Same H' H2)
      ⟨none, none, rfl, Same.refl _⟩ (fun i σ H2 _ ⟨_, _, _, q⟩ => SqL.of (q _ _ (s01 _ _ hl))) ?_ ?_⟩
    · rintro i x σ H2 hi ⟨n3, n6, rfl, s2⟩
      obtain ⟨t, hti, htx⟩ := hth.get hi
      refine ⟨_, rfl, x, t, rfl, htx.keep (Same.tk (Same.trans s01 s2)), pok.ok t (List.mem_of_getElem? hti), fun H3 s3 => ?_⟩
      have hd3 : H3 d0 = some (.dK []) := s3 _ _ (s2 _ _ (s1 _ _ upd_same))
      refine ⟨_, rfl, _, rfl, d0, _, rfl, DGet.k (k := Sum.inl (sealOf t)) hd3, _, rfl, ?_⟩
      exact iteF (iteF ⟨some x, some (.int (sealOf t)), rfl, Same.trans s2 s3⟩)
    · rintro σ H2 ⟨n3, n6, rfl, s2⟩
      exact ⟨_, rfl, k H2 (Same.trans s01 s2)⟩
end
end PV
/-! W6c: shown. -/
namespace PV
open PySem PySem.Spec L2
section
variable {P : Program} {w : World} {K : PySem.W.Frag} {mg : Str → Option Value} {base : Heap} {A : Ad}
def spSH (A : Ad) : Sp := fun vs H Q _ => ∃ t x l kp d m ts key wo r, vs = [.int (Tr.root t), .ref x, .ref l, .ref kp] ∧ PapAt H l ts ∧ POk ts ∧ PlainAt A.cK H kp d m ∧ Mok m ∧ t.Ok ∧ t.size ≤ 299 ∧ AskAt A H x key wo ∧ key.keyB = true ∧ Wor wo ∧ Shows t key wo (layAll [] ts) m r ∧
  ∀ H', Same H H' → Q (.str r) H'
theorem sc_SH : FnScope ["root", "ask", "paper", "keeper", "answer"] ["root", "ask", "paper", "keeper"] (defScope (top 36)) := ⟨rfl, rfl, rfl, by decide +kernel, rfl, by decide +kernel, by decide +kernel⟩
theorem shows_so {t : Tr} {key wo : PV.T} {W m : M} {r : Str} (h : Shows t key wo W m r) : SeenOr (plainS W) (putR t key) ∧ (Seen (plainS W) (putR t key) → LayOK (plainS W) (putL t key wo)) := by
  have key' : (∀ x ∈ putR t key, M.get W (sealOf x) = some x) → SeenOr (plainS W) (putR t key) := fun h x hx => .inl (by rw [see_plainS]; exact h x hx)
  cases h with
  | refused h e =>
    refine ⟨fun x hx => by rw [see_plainS]; exact h x hx, fun sn => ?_⟩
    obtain ⟨x, hx, e⟩ := e
    have q := sn x hx
    rw [see_plainS, e] at q
    cases q
  | right h l hm lm => exact ⟨key' h, fun _ => l⟩
  | clash h l hm lm => exact ⟨key' h, fun _ => l⟩
  | wrong h l hm e => exact ⟨key' h, fun _ => l⟩
theorem ok_SH (T : Txt K mg A) : Okf P w K mg base CX0 13 A.fSH ["root", "ask", "paper", "keeper"] (spSH A) := by
  obtain ⟨fd, F, b⟩ := T.d_shown
  refine ⟨fd, F.ok sc_SH (fun vs H Q E h => ?_) (fun cdv Ar outer s H vs Q E hr h => ?_), b⟩
  · obtain ⟨t, x, l, kp, d, m, ts, key, wo, r, rfl, _⟩ := h; rfl
  · obtain ⟨t, x, l, kp, d, m, ts, key, wo, r, rfl, pap, pok, hk, mok, tok, hts, ask, kb, wor, sh, k⟩ := h
    have nd := sc_SH.nd
    refine ⟨_, pss_cons (ps_try_hs rfl rfl takes0 (fun W pn xe tk own => pss_one (ps_set (i := 4) nd rfl (.inl rfl) (pe_callO (ok_CH T) hr (by rfl) T.g_checked T.d_checked.kp (fun σ => passAt tk σ) (pa_cons (pv 0) (pa_cons (pv 1) (pa_cons (pv 2) pa_nil))))))
        (Hds.cons (tests_three ⟨by rfl, by decide, .inl T.g_NoPaper⟩ ⟨by rfl, by decide, .inl T.g_BadThing⟩ ⟨by rfl, by decide, .inl T.g_Clash⟩) (fun a oe cls d pn hz hf => pss_one (ps_ret pe_str)) Hds.nil))
      (pss_cons (ps_try_hs rfl rfl takes0 (fun W pn xe tk own => pss_one (ps_if (pt_cmpR op_eq (pe_methO (pv 1) T.i_cPut T.m_cPut_answer (ok_Pa T .reader) hr (fun σ => passAt tk σ) (pa_cons (pe_makeO T.k_cR (ok_Ri T) hr (by rfl) T.g_Reader pass0 (pa_cons (pv 3) pa_nil)) (pa_cons (pv 0) pa_nil))) (pv 4) (nomark _)) (pss_one (ps_ret pe_str)) pss_nil))
        (Hds.cons (tests_one ⟨by rfl, by decide, .inl T.g_Clash⟩) (fun a oe cls d pn hz hf => pss_one (ps_ret pe_str)) (Hds.cons (tests_two ⟨by rfl, by decide, .inl T.g_NoPaper⟩ ⟨by rfl, by decide, .inl T.g_BadThing⟩) (fun a oe cls d pn hz hf => pss_one (ps_set (i := 4) nd rfl (.inl rfl) pe_non)) Hds.nil)))
      (pss_cons (ps_if (pt_cmp (pc_notN (pe_callO (ok_CO2 T) hr (by rfl) T.g_clash_of T.d_clash_of.kp no0 (pa_cons (pv 2) (pa_cons (pv 3) pa_nil))))) (pss_one (ps_ret pe_str)) pss_nil)
      (pss_one (ps_ret pe_str)))), ?_⟩
    obtain ⟨so, lok⟩ := shows_so sh
    refine ⟨_, rfl, _, rfl, _, rfl, t, x, l, ts, key, wo, rfl, pap, pok, tok, hts, ask, kb, wor, so, lok, fun sn H1 s1 => ?_, fun lost H1 s1 => ⟨true, T.e_np3, fun _ a ha => ?_, fun q => nomatch q⟩⟩
    · obtain ⟨dx, kv, wv, hx, hkv, hwv⟩ := ask.same s1
      have hk1 := hk.nl (.same s1)
      refine ⟨_, rfl, x, dx, _, rfl, hx, lookPut_ans, ?_⟩
      unfold tCons
      refine make_reader T hk1 (fun Q' q => ⟨_, rfl, q⟩) fun H2 rp d1 e1 s2 hrp hd1 he1 v1 => ?_
      have hfp : ∀ b ∈ [d1, e1], H1 b = none := fun b hb => by rcases List.mem_cons.mp hb with e | hb; rw [e]; exact hd1; rw [List.mem_singleton.mp hb]; exact he1
      have fin : ∀ H3, Fit [d1, e1] H2 H3 → Same H H3 := fun H3 f => Same.trans s1 (Same.fit s2 f hfp)
      refine ⟨_, rfl, x, rp, [d1, e1], readS m, t, key, wo, rfl, AskAt.same ⟨dx, kv, wv, hx, hkv, hwv⟩ s2, v1, readS_ok mok, Nat.zero_le _, Nat.zero_le _, tok, hts, kb, wor.1, wor.2, ?_, fun sn2 lok2 H3 f3 v3 => ?_, fun sn2 nlk H3 dd f3 ca => ?_, fun lost H3 f3 => ?_⟩
      · intro y hy
        rw [see_readS]
        cases sh with
        | refused h e =>
          obtain ⟨z, hz, e⟩ := e
          have q := sn z hz
          rw [see_plainS, e] at q
          cases q
        | right h l hm lm => exact .inl (hm y hy)
        | clash h l hm lm => exact .inl (hm y hy)
        | wrong h l hm e => rw [hm]; exact .inr rfl
      · refine ⟨_, rfl, rfl, _, rfl, ?_⟩
        rw [decide_eq_true rfl]
        refine iteT ?_
        cases sh with
        | refused h e =>
          obtain ⟨z, hz, e⟩ := e
          have q := sn z hz
          rw [see_plainS, e] at q
          cases q
        | right h l hm lm => exact k H3 (fin H3 f3)
        | clash h l hm lm => exact absurd lok2 lm
        | wrong h l hm e =>
          obtain ⟨y, hy⟩ := List.exists_mem_of_ne_nil _ e
          have q := sn2 y hy
          rw [see_readS, hm] at q
          cases q
      · refine ⟨true, T.e_clc, fun _ a ha => ?_, fun q => nomatch q⟩
        cases sh with
        | refused h e =>
          obtain ⟨z, hz, e⟩ := e
          have q := sn z hz
          rw [see_plainS, e] at q
          cases q
        | right h l hm lm => exact absurd lm nlk
        | clash h l hm lm => exact k H3 (fin H3 f3)
        | wrong h l hm e =>
          obtain ⟨y, hy⟩ := List.exists_mem_of_ne_nil _ e
          have q := sn2 y hy
          rw [see_readS, hm] at q
          cases q
      · refine ⟨false, T.e_npc, fun q => (nomatch q), fun _ => ⟨true, T.e_np2, fun _ a ha => ?_, fun q => nomatch q⟩⟩
        have bad : (∀ x ∈ putR t key, M.get m (sealOf x) = some x) → False := fun hm => by
          obtain ⟨y, hy, e⟩ := lost
          rw [see_readS, hm y hy] at e
          cases e
        cases sh with
        | refused h e =>
          obtain ⟨z, hz, e⟩ := e
          have q := sn z hz
          rw [see_plainS, e] at q
          cases q
        | right h l hm lm => exact (bad hm).elim
        | clash h l hm lm => exact (bad hm).elim
        | wrong h lw hm e =>
          subst hm
          have sf := fin H3 f3
          refine ⟨_, rfl, _, rfl, l, ts, kp, d, rfl, pap.same sf, pok, hk.nl (.same sf), fun H4 s4 => ⟨_, rfl, ?_⟩⟩
          rw [decide_eq_true rfl]
          exact iteF (k H4 (Same.trans sf s4))
    · cases sh with
      | refused h e => exact k H1 s1
      | right h l hm lm =>
        obtain ⟨y, hy, e⟩ := lost
        rw [see_plainS, h y hy] at e
        cases e
      | clash h l hm lm =>
        obtain ⟨y, hy, e⟩ := lost
        rw [see_plainS, h y hy] at e
        cases e
      | wrong h l hm e =>
        obtain ⟨y, hy, e⟩ := lost
        rw [see_plainS, h y hy] at e
        cases e
end
end PV
/-! W7: the law's cells, keys, worths. -/
namespace PV
open PySem PySem.Spec L2
section
variable {P : Program} {w : World} {K : PySem.W.Frag} {mg : Str → Option Value} {base : Heap} {A : Ad}
theorem sc_Lc : FnScope ["script", "k"] ["script", "k"] (defScope (top 56)) := ⟨rfl, rfl, rfl, by decide +kernel, rfl, by decide +kernel, by decide +kernel⟩
theorem ok_Lc (T : Txt K mg A) : Okf P w K mg base CX0 1 A.fLc ["script", "k"] (spCell K) := by
  obtain ⟨fd, F, b⟩ := T.d_L_cell_at
  refine ⟨fd, F.ok sc_Lc (fun vs H Q E h => ?_) (fun cdv Ar outer s H vs Q E hr h => ?_), b⟩
  · obtain ⟨l, ns, j, rfl, _⟩ := h; rfl
  · obtain ⟨l, ns, j, rfl, hs, q⟩ := h
    refine ⟨_, pss_cons (ps_if (pt_cmpR op_lt (pv 1) (pe_callB call_len (by rfl) T.b_len bt_len (pa_cons (pv 0) pa_nil)) (nomark _)) (pss_one (ps_ret (pe_ix ix_list (pv 0) (pv 1) (fun _ _ => rfl)))) pss_nil)
      (pss_one (ps_ret pe_int)), ?_⟩
    refine ⟨_, rfl, _, rfl, _, (ns.map V.int).length, rfl, .inl ⟨_, hs, rfl⟩, _, _, rfl, rfl, _, rfl, ?_⟩
    by_cases hj : j < ns.length
    · rw [decide_eq_true (show ((j : Nat) : Int) < (((ns.map V.int).length : Nat) : Int) by rw [List.length_map]; omega)]
      exact iteT ⟨_, rfl, _, rfl, l, _, _, _, rfl, rfl, hs, atI_cell hj, q⟩
    · rw [decide_eq_false (show ¬ ((j : Nat) : Int) < (((ns.map V.int).length : Nat) : Int) by rw [List.length_map]; omega)]
      refine iteF ?_
      rw [cell_out hj] at q
      exact q
def spLt : Sp := fun vs H Q _ => ∃ c, vs = [.int c, .int 42] ∧ ∀ H' p (ns : List Int), Same H H' → H p = none → ns.length = 42 → H' p = some (.lst (ns.map V.int)) → Q (.ref p) H'
theorem sc_Lt : FnScope ["cell", "many", "numbers", "rest", "mixed", "k"] ["cell", "many"] (defScope (top 57)) := ⟨rfl, rfl, rfl, by decide +kernel, rfl, by decide +kernel, by decide +kernel⟩
theorem ok_Lt (T : Txt K mg A) : Okf P w K mg base CX0 1 A.fLt ["cell", "many"] spLt := by
  obtain ⟨fd, F, b⟩ := T.d_L_turned
  refine ⟨fd, F.ok sc_Lt (fun vs H Q E h => ?_) (fun cdv Ar outer s H vs Q E hr h => ?_), b⟩
  · obtain ⟨c, rfl, _⟩ := h; rfl
  · obtain ⟨c, rfl, k⟩ := h
    have nd := sc_Lt.nd
    refine ⟨_, pss_cons (ps_set (i := 2) nd rfl (.inl rfl) (pe_lst pa_nil))
      (pss_cons (ps_set (i := 3) nd rfl (.inl rfl) (pv 0))
      (pss_cons (ps_set (i := 4) nd rfl (.inl rfl) (pe_op op_mod (pv 0) pe_int))
      (pss_cons (ps_for PassesOwn.never rfl (pi_range1 (by rfl) T.b_range (pa_cons (pv 1) pa_nil)) (pg_name (i := 5) nd rfl (.inl rfl))
        (pss_one (ps_if (pt_cmpR op_eq (pe_op op_mod (pv 0) pe_int) pe_int (nomark _))
          (pss_cons (ps_expr (pe_bm PySem.F.plainAttrs_list PySem.F.slot_list_append PySem.F.type_list_append mt_append (pv 2) (pa_cons (pe_op op_mod (pe_op op_fdiv (pv 3) pe_int) pe_int) pa_nil)))
          (pss_one (ps_set (i := 3) nd rfl (.inl rfl) (pe_op op_fdiv (pv 3) pe_int))))
          (pss_cons (ps_set (i := 4) nd rfl (.inl rfl) (pe_op op_mod (pe_op op_add (pe_op op_add (pe_op op_mul (pv 4) (pv 4)) (pe_op op_mul pe_int (pv 5))) pe_int) pe_int))
          (pss_one (ps_expr (pe_bm PySem.F.plainAttrs_list PySem.F.slot_list_append PySem.F.type_list_append mt_append (pv 2) (pa_cons (pe_op op_fdiv (pv 4) pe_int) pa_nil))))))))
      (pss_one (ps_ret (pv 2)))))), ?_⟩
    refine ⟨Nat.zero_le _, fun l hl => ?_⟩
    refine ⟨_, rfl, _, rfl, _, _, rfl, rfl, (by show (0 : Int) < 2305843009213693951; decide), ?_⟩
    have inM : ∀ x : Int, 0 ≤ x % 2305843009213693951 ∧ x % 2305843009213693951 < 2305843009213693951 := fun x => ⟨Int.emod_nonneg _ (by decide), Int.emod_lt_of_pos _ (by decide)⟩
    refine ⟨_, rfl, 42, rfl, by decide, by decide, for_range (n := 42) (fun i σ H' => ∃ (rest mixed : Int) (n5 : Option V) (ns : List Int), σ = [some (.int c), some (.int 42), some (.ref l), some (.int rest), some (.int mixed), n5] ∧ 0 ≤ mixed ∧ mixed < 2305843009213693951 ∧ ns.length = i ∧ Same H H' ∧ H' l = some (.lst (ns.map V.int)))
      ⟨c, _, none, [], rfl, (inM c).1, (inM c).2, rfl, Same.fresh hl, upd_same⟩ ?_ ?_⟩
    · rintro i σ H' hi ⟨rest, mixed, n5, ns, rfl, m0, m1, hn, sm, hL⟩
      refine ⟨_, rfl, _, _, rfl, rfl, (by show (0 : Int) < 2; decide), rfl, _, rfl, ?_⟩
      have lxs : (ns.map V.int).length < sizeLine := by rw [List.length_map, hn]; exact Nat.lt_of_lt_of_le (show i < 10000 by omega) (by decide)
      by_cases ce : c % 2 = 0
      · rw [decide_eq_true (show V.int (c % 2) = V.int 0 by rw [ce])]
        refine iteT ⟨_, rfl, .inl ⟨rfl, _, SqL.of hL⟩, _, rfl, _, _, rfl, rfl, ⟨by decide, by decide⟩, _, _, rfl, rfl, (by show (0 : Int) < 1000; decide), l, _, _, rfl, rfl, hL, lxs, ?_⟩
        refine ⟨_, rfl, _, _, rfl, rfl, ⟨by decide, by decide⟩, ?_⟩
        refine ⟨rest / 1000, mixed, _, ns ++ [rest / 2 % 1000], rfl, m0, m1, by simp [hn], Same.own sm hl, ?_⟩
        rw [upd_same, List.map_append]
        rfl
      · rw [decide_eq_false (show ¬ V.int (c % 2) = V.int 0 from fun z => ce (V.int.inj z))]
        refine iteF ⟨_, rfl, _, rfl, _, _, rfl, rfl, .inl ⟨by omega, by omega⟩, _, rfl, _, _, rfl, rfl, .inl ⟨by decide, by decide⟩, _, _, rfl, rfl, _, _, rfl, rfl, _, _, rfl, rfl, (by show (0 : Int) < 2305843009213693951; decide), ?_⟩
        refine ⟨_, rfl, .inl ⟨rfl, _, SqL.of hL⟩, _, rfl, _, _, rfl, rfl, ⟨by decide, by decide⟩, l, _, _, rfl, rfl, hL, lxs, ?_⟩
        refine ⟨rest, _, _, ns ++ [(mixed * mixed + 1000003 * (0 + (i : Int)) + 77) % 2305843009213693951 / 1009], rfl, (inM _).1, (inM _).2, by simp [hn], Same.own sm hl, ?_⟩
        rw [upd_same, List.map_append]
        rfl
    · rintro σ H' ⟨rest, mixed, n5, ns, rfl, m0, m1, hn, sm, hL⟩
      exact ⟨_, rfl, k H' l ns sm hl hn hL⟩
/-! ### keys and worths -/
def spLk : Sp := fun vs H Q _ => ∃ n tw, vs = [.int n, .int tw] ∧ (tw = 0 ∨ tw = 1) ∧ ∀ H' v key, Same H H' → Th H' key v → key.keyB = true → Q v H'
theorem key_text {a b : Int} (h3 : a = 0 ∨ a = 1 ∨ a = 2) (h2 : b = 0 ∨ b = 1) : ∃ c, PySem.MulOk "k" (1 + a) ∧ atI ("ab" : Str).cps.toList b = some c ∧ (PySem.Txt.mul "k" (1 + a)).length + Str.length ⟨#[c]⟩ ≤ sizeLine ∧ okS (PySem.Txt.mul "k" (1 + a) ++ ⟨#[c]⟩) = true := by
  rcases h3 with rfl | rfl | rfl <;> rcases h2 with rfl | rfl
  · exact ⟨97, by unfold PySem.MulOk; decide +kernel, by decide +kernel, by decide +kernel, by decide +kernel⟩
  · exact ⟨98, by unfold PySem.MulOk; decide +kernel, by decide +kernel, by decide +kernel, by decide +kernel⟩
  · exact ⟨97, by unfold PySem.MulOk; decide +kernel, by decide +kernel, by decide +kernel, by decide +kernel⟩
  · exact ⟨98, by unfold PySem.MulOk; decide +kernel, by decide +kernel, by decide +kernel, by decide +kernel⟩
  · exact ⟨97, by unfold PySem.MulOk; decide +kernel, by decide +kernel, by decide +kernel, by decide +kernel⟩
  · exact ⟨98, by unfold PySem.MulOk; decide +kernel, by decide +kernel, by decide +kernel, by decide +kernel⟩
theorem sc_Lk : FnScope ["number", "twin"] ["number", "twin"] (defScope (top 58)) := ⟨rfl, rfl, rfl, by decide +kernel, rfl, by decide +kernel, by decide +kernel⟩
theorem ok_Lk (T : Txt K mg A) : Okf P w K mg base CX0 1 A.fLk ["number", "twin"] spLk := by
  obtain ⟨fd, F, b⟩ := T.d_L_key
  refine ⟨fd, F.ok sc_Lk (fun vs H Q E h => ?_) (fun cdv Ar outer s H vs Q E hr h => ?_), b⟩
  · obtain ⟨n, tw, rfl, _⟩ := h; rfl
  · obtain ⟨n, tw, rfl, htw, k⟩ := h
    refine ⟨_, pss_cons (ps_if (pt_cmpR op_eq (pe_op op_mod (pv 0) pe_int) pe_int (nomark _)) (pss_one (ps_ret (pe_ix ix_list (pe_lst (pa_cons pe_int (pa_cons (pe_un un_neg pe_int) pa_nil))) (pv 1) (fun _ _ => rfl)))) pss_nil)
      (pss_cons (ps_if (pt_cmpR op_eq (pe_op op_mod (pv 0) pe_int) pe_int (nomark _)) (pss_one (ps_ret (pe_op op_add_str (pe_op op_mul_str pe_str (pe_op op_add pe_int (pe_op op_mod (pe_op op_fdiv (pv 0) pe_int) pe_int))) (pe_ix ix_str pe_str (pe_op op_mod (pe_op op_fdiv (pv 0) pe_int) pe_int) (fun _ _ => rfl))))) pss_nil)
      (pss_one (ps_ret (pe_op op_sub (pe_op op_mod (pe_op op_fdiv (pv 0) pe_int) pe_int) pe_int)))), ?_⟩
    refine ⟨_, rfl, _, _, rfl, rfl, (by show (0 : Int) < 5; decide), rfl, _, rfl, ?_⟩
    by_cases c0 : n % 5 = 0
    · rw [decide_eq_true (show V.int (n % 5) = V.int 0 by rw [c0])]
      refine iteT ⟨_, rfl, by show 2 ≤ sizeLine; decide, fun p hp => ⟨_, rfl, ?_⟩⟩
      rcases htw with rfl | rfl
      · exact ⟨p, _, _, _, rfl, rfl, SqL.of upd_same, atI_nat (j := 0) rfl, k _ _ (.int 251530379464423) (Same.fresh hp) rfl (by decide +kernel)⟩
      · exact ⟨p, _, _, _, rfl, rfl, SqL.of upd_same, atI_nat (j := 1) rfl, k _ _ (.int (-1285000000000000000)) (Same.fresh hp) rfl (by decide +kernel)⟩
    · rw [decide_eq_false (show ¬ V.int (n % 5) = V.int 0 from fun z => c0 (V.int.inj z))]
      refine iteF ⟨_, rfl, _, _, rfl, rfl, (by show (0 : Int) < 5; decide), rfl, _, rfl, ?_⟩
      by_cases c1 : n % 5 = 1
      · rw [decide_eq_true (show V.int (n % 5) = V.int 1 by rw [c1])]
        refine iteT ⟨_, rfl, _, _, rfl, rfl, ⟨by decide, by decide⟩, _, _, rfl, rfl, (by show (0 : Int) < 3; decide), _, _, rfl, rfl, ?_⟩
        have h3 : n / 5 % 3 = 0 ∨ n / 5 % 3 = 1 ∨ n / 5 % 3 = 2 := by omega
        have h2 : n / 15 % 2 = 0 ∨ n / 15 % 2 = 1 := by omega
        obtain ⟨c, m1, m2, m3, m4⟩ := key_text h3 h2
        refine ⟨_, 1 + n / 5 % 3, rfl, rfl, m1, ?_⟩
        refine ⟨_, rfl, _, _, rfl, rfl, ⟨by decide, by decide⟩, _, _, rfl, rfl, (by show (0 : Int) < 2; decide), _, n / 15 % 2, c, rfl, rfl, by decide +kernel, m2, _, _, rfl, rfl, m3, ?_⟩
        exact k H _ (.str (PySem.Txt.mul "k" (1 + n / 5 % 3) ++ (⟨#[c]⟩ : Str))) (Same.refl H) rfl m4
      · rw [decide_eq_false (show ¬ V.int (n % 5) = V.int 1 from fun z => c1 (V.int.inj z))]
        refine iteF ⟨_, rfl, _, _, rfl, rfl, ⟨by decide, by decide⟩, _, _, rfl, rfl, (by show (0 : Int) < 14; decide), _, _, rfl, rfl, ?_⟩
        refine k H _ (.int (n / 5 % 14 - 3)) (Same.refl H) rfl ?_
        have e1 : (100 : Int) ≤ MOSTN := by decide
        show (decide (-MOSTN ≤ n / 5 % 14 - 3) && decide (n / 5 % 14 - 3 ≤ MOSTN)) = true
        rw [decide_eq_true (show -MOSTN ≤ n / 5 % 14 - 3 by omega), decide_eq_true (show n / 5 % 14 - 3 ≤ MOSTN by omega)]
        rfl
def spLw : Sp := fun vs H Q _ => ∃ n tw, vs = [.int n, .int tw] ∧ (tw = 0 ∨ tw = 1) ∧ ∀ H' v wo, Same H H' → Th H' wo v → Wor wo → Q v H'
theorem int_wor {i : Int} (h1 : -MOSTN ≤ i) (h2 : i ≤ MOSTN) : Wor (.int i) := by
  refine ⟨?_, by intro z; cases z⟩
  show (decide (-MOSTN ≤ i) && decide (i ≤ MOSTN)) = true
  rw [decide_eq_true h1, decide_eq_true h2]
  rfl
theorem worth_text {b : Int} (h2 : b = 0 ∨ b = 1) : ∃ c, atI ("cd" : Str).cps.toList b = some c ∧ okS (("w" : Str) ++ (⟨#[c]⟩ : Str)) = true ∧ ("w" : Str).length + Str.length ⟨#[c]⟩ ≤ sizeLine := by
  rcases h2 with rfl | rfl
  · exact ⟨99, by decide +kernel, by decide +kernel, by decide +kernel⟩
  · exact ⟨100, by decide +kernel, by decide +kernel, by decide +kernel⟩
theorem tup_wor {a b : Int} (h1 : -MOSTN ≤ a) (h2 : a ≤ MOSTN) (h3 : -MOSTN ≤ b) (h4 : b ≤ MOSTN) : Wor (.tup [.int a, .int b, .str "x"]) := by
  refine ⟨?_, by intro z; cases z⟩
  simp only [T.within, T.withins, List.length_cons, List.length_nil, Bool.true_and, Bool.and_true, Bool.and_eq_true, decide_eq_true_eq]
  exact ⟨⟨by decide, by decide⟩, ⟨h1, h2⟩, ⟨h3, h4⟩, by decide +kernel⟩
theorem sc_Lw : FnScope ["number", "twin"] ["number", "twin"] (defScope (top 59)) := ⟨rfl, rfl, rfl, by decide +kernel, rfl, by decide +kernel, by decide +kernel⟩
theorem ok_Lw (T : Txt K mg A) : Okf P w K mg base CX0 1 A.fLw ["number", "twin"] spLw := by
  obtain ⟨fd, F, b⟩ := T.d_L_worth
  refine ⟨fd, F.ok sc_Lw (fun vs H Q E h => ?_) (fun cdv Ar outer s H vs Q E hr h => ?_), b⟩
  · obtain ⟨n, tw, rfl, _⟩ := h; rfl
  · obtain ⟨n, tw, rfl, htw, k⟩ := h
    refine ⟨_, pss_cons (ps_if (pt_cmpR op_eq (pe_op op_mod (pv 0) pe_int) pe_int (nomark _)) (pss_one (ps_ret (pe_ix ix_list (pe_lst (pa_cons pe_int (pa_cons (pe_un un_neg pe_int) pa_nil))) (pv 1) (fun _ _ => rfl)))) pss_nil)
      (pss_cons (ps_if (pt_cmpR op_eq (pe_op op_mod (pv 0) pe_int) pe_int (nomark _)) (pss_one (ps_ret (pe_tup (pa_cons (pe_op op_mod (pe_op op_fdiv (pv 0) pe_int) pe_int) (pa_cons (pe_ix ix_list (pe_lst (pa_cons pe_int (pa_cons (pe_un un_neg pe_int) pa_nil))) (pv 1) (fun _ _ => rfl)) (pa_cons pe_str pa_nil)))))) pss_nil)
      (pss_cons (ps_if (pt_cmpR op_eq (pe_op op_mod (pv 0) pe_int) pe_int (nomark _)) (pss_one (ps_ret (pe_op op_add_str pe_str (pe_ix ix_str pe_str (pe_op op_mod (pe_op op_fdiv (pv 0) pe_int) pe_int) (fun _ _ => rfl))))) pss_nil)
      (pss_one (ps_ret (pe_op op_mod (pe_op op_fdiv (pv 0) pe_int) pe_int))))), ?_⟩
    have e1 : (1000000000000000000000 : Int) ≤ MOSTN := by decide
    refine ⟨_, rfl, _, _, rfl, rfl, (by show (0 : Int) < 4; decide), rfl, _, rfl, ?_⟩
    by_cases c0 : n % 4 = 0
    · rw [decide_eq_true (show V.int (n % 4) = V.int 0 by rw [c0])]
      refine iteT ⟨_, rfl, by show 2 ≤ sizeLine; decide, fun p hp => ⟨_, rfl, ?_⟩⟩
      rcases htw with rfl | rfl
      · exact ⟨p, _, _, _, rfl, rfl, SqL.of upd_same, atI_nat (j := 0) rfl, k _ _ (.int 251530379464423) (Same.fresh hp) rfl (int_wor (by omega) (by omega))⟩
      · exact ⟨p, _, _, _, rfl, rfl, SqL.of upd_same, atI_nat (j := 1) rfl, k _ _ (.int (-1285000000000000000)) (Same.fresh hp) rfl (int_wor (by omega) (by omega))⟩
    · rw [decide_eq_false (show ¬ V.int (n % 4) = V.int 0 from fun z => c0 (V.int.inj z))]
      refine iteF ⟨_, rfl, _, _, rfl, rfl, (by show (0 : Int) < 4; decide), rfl, _, rfl, ?_⟩
      by_cases c1 : n % 4 = 1
      · rw [decide_eq_true (show V.int (n % 4) = V.int 1 by rw [c1])]
        refine iteT ⟨_, rfl, _, _, rfl, rfl, ⟨by decide, by decide⟩, _, _, rfl, rfl, (by show (0 : Int) < 9; decide), _, rfl, by show 2 ≤ sizeLine; decide, fun p hp => ⟨_, rfl, ?_⟩⟩
        rcases htw with rfl | rfl
        · refine ⟨p, _, _, _, rfl, rfl, SqL.of upd_same, atI_nat (j := 0) rfl, by show 3 ≤ sizeLine; decide, fun q hq => ?_⟩
          exact k _ _ (.tup [.int (n / 4 % 9), .int 251530379464423, .str "x"]) (Same.trans (Same.fresh hp) (Same.fresh hq)) ⟨q, _, rfl, upd_same, _, _, rfl, rfl, _, _, rfl, rfl, _, _, rfl, rfl, rfl⟩ (tup_wor (by omega) (by omega) (by omega) (by omega))
        · refine ⟨p, _, _, _, rfl, rfl, SqL.of upd_same, atI_nat (j := 1) rfl, by show 3 ≤ sizeLine; decide, fun q hq => ?_⟩
          exact k _ _ (.tup [.int (n / 4 % 9), .int (-1285000000000000000), .str "x"]) (Same.trans (Same.fresh hp) (Same.fresh hq)) ⟨q, _, rfl, upd_same, _, _, rfl, rfl, _, _, rfl, rfl, _, _, rfl, rfl, rfl⟩ (tup_wor (by omega) (by omega) (by omega) (by omega))
      · rw [decide_eq_false (show ¬ V.int (n % 4) = V.int 1 from fun z => c1 (V.int.inj z))]
        refine iteF ⟨_, rfl, _, _, rfl, rfl, (by show (0 : Int) < 4; decide), rfl, _, rfl, ?_⟩
        by_cases c2 : n % 4 = 2
        · rw [decide_eq_true (show V.int (n % 4) = V.int 2 by rw [c2])]
          have h2 : n / 4 % 2 = 0 ∨ n / 4 % 2 = 1 := by omega
          obtain ⟨c, m1, m2, m3⟩ := worth_text h2
          refine iteT ⟨_, rfl, _, _, rfl, rfl, ⟨by decide, by decide⟩, _, _, rfl, rfl, (by show (0 : Int) < 2; decide), _, n / 4 % 2, c, rfl, rfl, by decide +kernel, m1, _, _, rfl, rfl, m3, ?_⟩
          exact k H _ (.str (("w" : Str) ++ (⟨#[c]⟩ : Str))) (Same.refl H) rfl ⟨m2, by intro z; cases z⟩
        · rw [decide_eq_false (show ¬ V.int (n % 4) = V.int 2 from fun z => c2 (V.int.inj z))]
          refine iteF ⟨_, rfl, _, _, rfl, rfl, ⟨by decide, by decide⟩, _, _, rfl, rfl, (by show (0 : Int) < 50; decide), ?_⟩
          exact k H _ (.int (n / 4 % 50)) (Same.refl H) rfl (int_wor (by omega) (by omega))
/-! ### the twin -/
def spLn (d : Nat) : Sp := fun vs H Q _ => ∃ v t, vs = [v] ∧ Th H t v ∧ t.within d = true ∧ ∀ H' v', Same H H' → Th H' t.twin v' → Q v' H'
theorem sc_Ln : FnScope ["one", "piece"] ["one"] (defScope (top 64)) := ⟨rfl, rfl, rfl, by decide +kernel, rfl, by decide +kernel, by decide +kernel⟩
theorem ok_Ln (T : Txt K mg A) : ∀ d : Nat, Okf P w K mg base CX0 (d + 1) A.fLn ["one"] (spLn d) := by
  intro d
  induction d using Nat.strongRecOn with
  | ind d ih =>
  obtain ⟨fd, F, b⟩ := T.d_L_twinned
  refine ⟨fd, F.ok sc_Ln (fun vs H Q E h => ?_) (fun cdv Ar outer s H vs Q E hr h => ?_), b⟩
  · obtain ⟨z, t, rfl, _⟩ := h; rfl
  · obtain ⟨v, t, rfl, ht, hd, k⟩ := h
    rcases co_cases (K := K) ht hd with ⟨rfl, rfl⟩ | ⟨i, rfl, rfl, h1, h2⟩ | ⟨z, rfl, rfl, hz⟩ | ⟨l, a, xs, rfl, rfl, ha, hx, h0, hl40, hw⟩
    · refine ⟨_, pss_cons (ps_if (pt_val (pe_isi (by rfl) T.b_isinstance (by rfl) T.b_tuple bt_tuple (pv 0))) pss_never pss_nil)
        (pss_cons (ps_if (pt_cmpR op_eq (pv 0) pe_int (nomark _)) pss_never pss_nil) (pss_cons (ps_if (pt_cmpR op_eq (pv 0) (pe_un un_neg pe_int) (nomark _)) pss_never pss_nil) (pss_one (ps_ret (pv 0))))), ?_⟩
      exact ⟨_, rfl, _, _, _, _, _, rfl, .ty _, ht.ty, kit_ty kNt, _, rfl, iteF ⟨_, rfl, rfl, _, rfl, iteF ⟨_, rfl, _, rfl, rfl, _, rfl, iteF ⟨_, rfl, k H _ (Same.refl H) rfl⟩⟩⟩⟩
    · refine ⟨_, pss_cons (ps_if (pt_val (pe_isi (by rfl) T.b_isinstance (by rfl) T.b_tuple bt_tuple (pv 0))) pss_never pss_nil)
        (pss_cons (ps_if (pt_cmpR op_eq (pv 0) pe_int (nomark _)) (pss_one (ps_ret (pe_un un_neg pe_int))) pss_nil) (pss_cons (ps_if (pt_cmpR op_eq (pv 0) (pe_un un_neg pe_int) (nomark _)) (pss_one (ps_ret pe_int)) pss_nil) (pss_one (ps_ret (pv 0))))), ?_⟩
      refine ⟨_, rfl, _, _, _, _, _, rfl, .ty _, ht.ty, kit_ty kiT, _, rfl, iteF ⟨_, rfl, rfl, _, rfl, ?_⟩⟩
      by_cases c1 : i = TW1
      · rw [decide_eq_true (show V.int i = V.int 251530379464423 by rw [c1])]
        refine iteT ⟨_, rfl, k H _ (Same.refl H) ?_⟩
        show V.int (-1285000000000000000) = V.int (twI i)
        rw [twI, if_pos c1]
      · rw [decide_eq_false (show ¬ V.int i = V.int 251530379464423 from fun z => c1 (V.int.inj z))]
        refine iteF ⟨_, rfl, _, rfl, rfl, _, rfl, ?_⟩
        by_cases c2 : i = TW2
        · rw [decide_eq_true (show V.int i = V.int (-1285000000000000000) by rw [c2])]
          refine iteT (k H _ (Same.refl H) ?_)
          show V.int 251530379464423 = V.int (twI i)
          rw [twI, if_neg c1, if_pos c2]
        · rw [decide_eq_false (show ¬ V.int i = V.int (-1285000000000000000) from fun z => c2 (V.int.inj z))]
          refine iteF ⟨_, rfl, k H _ (Same.refl H) ?_⟩
          show V.int i = V.int (twI i)
          rw [twI, if_neg c1, if_neg c2]
    · refine ⟨_, pss_cons (ps_if (pt_val (pe_isi (by rfl) T.b_isinstance (by rfl) T.b_tuple bt_tuple (pv 0))) pss_never pss_nil)
        (pss_cons (ps_if (pt_cmpR op_eq (pv 0) pe_int (nomark _)) pss_never pss_nil) (pss_cons (ps_if (pt_cmpR op_eq (pv 0) (pe_un un_neg pe_int) (nomark _)) pss_never pss_nil) (pss_one (ps_ret (pv 0))))), ?_⟩
      exact ⟨_, rfl, _, _, _, _, _, rfl, .ty _, ht.ty, kit_ty ksT, _, rfl, iteF ⟨_, rfl, rfl, _, rfl, iteF ⟨_, rfl, _, rfl, rfl, _, rfl, iteF ⟨_, rfl, k H _ (Same.refl H) rfl⟩⟩⟩⟩
    · obtain ⟨d, rfl⟩ : ∃ d', d = d' + 1 := ⟨d - 1, by omega⟩
      rw [Nat.add_sub_cancel] at hw
      have G := ih d (by omega)
      refine ⟨_, pss_cons (ps_if (pt_val (pe_isi (by rfl) T.b_isinstance (by rfl) T.b_tuple bt_tuple (pv 0)))
          (pss_one (ps_ret (pe_callTy call_tuple_of (by rfl) T.b_tuple bt_tuple (pa_cons (pe_lc (own := [("piece", 1)]) (g := gName 1) (tt := tYes) (te := tCallS (spLn d) (fun _ => E0) (tCons (tVar 1) tNil)) rfl sc_Ln.nd (pi_tup (pv 0))
            (blkOk_by (N := ["one", "piece"]) (sc := defScope (top 64)) (by decide +kernel)) (fun _ _ _ _ _ => pg_name (i := 1) sc_Ln.nd rfl (Or.inl rfl)) (fun _ _ _ _ _ => pts_nil)
            (fun _ _ _ _ _ => pe_callO G hr (by rfl) T.g_L_twinned T.d_L_twinned.kp no0 (pa_cons (pv 1) pa_nil))) pa_nil)))) pss_nil)
        pss_never, ?_⟩
      refine ⟨_, rfl, _, _, _, _, _, rfl, .ty _, ht.ty, kit_ty kTT, _, rfl, iteT ?_⟩
      refine ⟨_, rfl, a, rfl, ⟨xs, SqT.of ha⟩, fun D hD => ?_⟩
      refine lc_tup (K := K) (a := a) (xs := xs) (fun i H' => Same H H' ∧ ∃ acc, H' D = some (.lst acc) ∧ ThA H' (PV.T.twins (l.take i)) acc)
        ⟨Same.fresh hD, [], upd_same, rfl⟩ (fun i H' _ ⟨q, _⟩ => SqT.of (q _ _ ha)) ?_ ?_
      · rintro i x H' hi ⟨sm, acc, hacc, hth⟩
        obtain ⟨t, hti, htx⟩ := hx.get hi
        refine ⟨rfl, ?_⟩
        simp only [tYes, ↓reduceIte]
        refine ⟨_, rfl, x, t, rfl, htx.keep (Same.tk sm), withins_mem hw t (List.mem_of_getElem? hti), fun H2 v' s2 hv' => ?_⟩
        have hacc2 := s2 _ _ hacc
        have al := hth.len
        rw [twins_len, List.length_take] at al
        refine ⟨acc, hacc2, ?_, ?_⟩
        · exact Nat.lt_of_le_of_lt (show _ ≤ 10 ^ 6 by omega) big2
        · have nl : NL H2 (upd H2 D (.lst (acc ++ [v']))) := NL.lst hacc2
          refine ⟨Same.own (Same.trans sm s2) hD, _, upd_same, ?_⟩
          rw [take_succ_of hti, twins_map, List.map_append, ← twins_map]
          exact ((hth.keep (Same.tk s2)).keep nl.tk).snoc (hv'.keep nl.tk)
      · rintro H' ⟨sm, acc, hacc, hth⟩
        rw [hx.len, List.take_length] at hth
        refine ⟨D, _, rfl, .inl ⟨SqL.of hacc, fun q hq => ?_⟩⟩
        exact k _ _ (Same.trans sm (Same.fresh hq)) ⟨q, acc, rfl, upd_same, hth.keep (Same.tk (Same.fresh hq))⟩
end
end PV
/-! W7b: copies; the grown tree. -/
namespace PV
open PySem PySem.Spec L2
theorem lay_keep {m : M} {ls : List T} (hl : LayOK (plainS m) ls) {x : T} (h : M.get m (sealOf x) = some x ∨ x ∈ ls) : M.get (layAll m ls) (sealOf x) = some x := by
  rcases h with h | h
  · by_cases c : ∃ y ∈ ls, sealOf y = sealOf x
    · obtain ⟨y, hy, e⟩ := c
      have q := hl.1 y hy x (.inr (by rw [e]; exact h))
      rw [q]
      exact layAll_new hl.2 hy
    · rw [layAll_old fun y hy e => c ⟨y, hy, e⟩]
      exact h
  · exact layAll_new hl.2 h
section
variable {P : Program} {w : World} {K : PySem.W.Frag} {mg : Str → Option Value} {base : Heap} {A : Ad}
def spLy (A : Ad) : Sp := fun vs H Q _ => ∃ kp d m, vs = [.ref kp] ∧ PlainAt A.cK H kp d m ∧ Mok m ∧ m.length ≤ 900000 ∧
  ∀ H' x e, Same H H' → H x = none → H e = none → PlainAt A.cK H' x e (layAll [] (things m)) → Q (.ref x) H'
theorem sc_Ly : FnScope ["keeper", "other", "one"] ["keeper"] (defScope (top 65)) := ⟨rfl, rfl, rfl, by decide +kernel, rfl, by decide +kernel, by decide +kernel⟩
theorem ok_Ly (T : Txt K mg A) : Okf P w K mg base CX0 8 A.fLy ["keeper"] (spLy A) := by
  obtain ⟨fd, F, b⟩ := T.d_L_copy
  refine ⟨fd, F.ok sc_Ly (fun vs H Q E h => ?_) (fun cdv Ar outer s H vs Q E hr h => ?_), b⟩
  · obtain ⟨kp, d, m, rfl, _⟩ := h; rfl
  · obtain ⟨kp, d, m, rfl, hk, mok, hlen, k⟩ := h
    have nd := sc_Ly.nd
    refine ⟨_, pss_cons (ps_set (i := 1) nd rfl (.inl rfl) (pe_makeO0 T.k_cK (ok_Vi T) hr (by rfl) T.g_Keeper pass0))
      (pss_cons (ps_for PassesOwn.never rfl (pi_list (pe_methO0 (pv 0) T.i_cK T.m_cK_things (ok_Kt T) hr no0)) (pg_name (i := 2) nd rfl (.inl rfl))
        (pss_one (ps_expr (pe_methO (pv 1) T.i_cK T.m_cK_lay (ok_Vl T) hr noX (pa_cons (pv 2) pa_nil)))))
      (pss_one (ps_ret (pv 1)))), ?_⟩
    unfold tSeq tAsg
    refine make_keeper T fun H1 x e s1 hx he pl => ?_
    have hk1 := hk.nl (.same s1)
    obtain ⟨dx, hkp, _⟩ := id hk1
    refine ⟨_, rfl, kp, dx, _, rfl, hkp, lookP_no (by decide +kernel), kp, d, m, rfl, hk1, mok, Nat.le_trans hlen (by decide), fun H2 p xs s2 hp hxs hth => ?_⟩
    have s12 := Same.trans s1 s2
    have tok := things_ok mok
    have con := things_con mok
    have tl := things_len m
    refine ⟨p, rfl, ⟨_, SqL.of hxs⟩, for_list (K := K) (a := p) (xs := xs) (fun i σ H' => ∃ n2, σ = [some (.ref kp), some (.ref x), n2] ∧ Same H H' ∧ H' p = some (.lst xs) ∧ ThA H' (things m) xs ∧ PlainAt A.cK H' x e (layAll [] ((things m).take i)))
      ⟨none, rfl, s12, hxs, hth, pl.nl (.same s2)⟩ (fun i σ H' _ ⟨_, _, _, q, _⟩ => SqL.of q) ?_ ?_⟩
    · rintro i y σ H' hi ⟨n2, rfl, sm, hL, hth', pl'⟩
      obtain ⟨t, hti, hty⟩ := hth'.get hi
      have tm := List.mem_of_getElem? hti
      obtain ⟨dx2, hxi, _⟩ := id pl'
      refine ⟨_, rfl, x, dx2, _, rfl, hxi, lookP_no (by decide +kernel), _, rfl, x, e, _, y, t, rfl, plain_own (T := T) (.inl rfl) pl', layAll_ok .nil fun z hz => tok z (List.mem_of_mem_take hz), ?_, hty, tok t tm, fun _ H3 f3 dm3 => ?_, fun u eu ne => ?_⟩
      · have q := layAll_len ((things m).take i) []
        rw [List.length_take] at q
        have q0 : ([] : M).length = 0 := rfl
        omega
      · refine ⟨some y, rfl, Same.fit sm f3 (fun b hb => by rw [List.mem_singleton.mp hb]; exact he), f3.lst hL, hth'.keep f3.tk, dx2, f3 _ _ hxi (.inr rfl), ?_⟩
        rw [layAll_take hti]
        exact dm3
      · rcases layAll_from eu with ⟨q, es⟩ | q
        · exact absurd (con u (List.mem_of_mem_take q) t tm es) ne
        · cases q
    · rintro σ H' ⟨n2, rfl, sm, hL, hth', pl'⟩
      refine ⟨_, rfl, k H' x e sm hx he ?_⟩
      rw [hth'.len, List.take_length] at pl'
      exact pl'
/-! ### the grown tree -/
theorem key_dk {H : Hp} {t : PV.T} {v : V} (h : Th H t v) (k : t.keyB = true) : ∃ dk : Key, v = kV dk := by
  rcases h.key_shape k with ⟨i, rfl, rfl⟩ | ⟨z, rfl, rfl⟩
  · exact ⟨Sum.inl i, rfl⟩
  · exact ⟨Sum.inr z, rfl⟩
structure Grown (m : M) (t : Tr) : Prop where
  mok : Mok m
  len : m.length ≤ 20 * 14
  ok : t.Ok
  size : t.size ≤ 14
  nodes : ∀ x ∈ t.nodes, M.get m (sealOf x) = some x
def spLg (A : Ad) : Sp := fun vs H Q E => ∃ kp d pd l tw, ∃ ns : List Int, vs = [.ref kp, .ref pd, .ref l, .int tw] ∧ PlainAt A.cK H kp d [] ∧ H pd = some (.dK []) ∧ pd ≠ d ∧ H l = some (.lst (ns.map V.int)) ∧ ns.length = 42 ∧ (tw = 0 ∨ tw = 1) ∧
  (∀ H' t m, Fit [d, pd] H H' → PlainAt A.cK H' kp d m → Grown m t → Q (.int (Tr.root t)) H') ∧
  (∀ H' dd, Fit [d, pd] H H' → ClashAt A H' (.ref A.cCL) (some dd) → E (.ref A.cCL) (some dd) H')
theorem sc_Lg : FnScope ["keeper", "pairs", "numbers", "twin", "root", "k", "key"] ["keeper", "pairs", "numbers", "twin"] (defScope (top 62)) := ⟨rfl, rfl, rfl, by decide +kernel, rfl, by decide +kernel, by decide +kernel⟩
theorem rgc3 : RgC 0 40 3 14 := ⟨by decide, by decide, by decide +kernel, by decide +kernel⟩
theorem putK_le (kvs : List (Key × V)) (k : Key) (x : V) : (putK kvs k x).length ≤ kvs.length + 1 := by
  unfold putK
  split
  · rw [List.length_map]; omega
  · rw [List.length_append, List.length_singleton]; exact Nat.le_refl _
theorem dropK_le (kvs : List (Key × V)) (k : Key) : (dropK kvs k).length ≤ kvs.length := List.length_filter_le _ _
theorem ok_Lg (T : Txt K mg A) : Okf P w K mg base (L2.CX P w) 11 A.fLg ["keeper", "pairs", "numbers", "twin"] (spLg A) := by
  obtain ⟨fd, F, b⟩ := T.d_L_grown
  refine ⟨fd, F.okX sc_Lg (fun vs H Q E h => ?_) (fun cdv Ar outer s H vs Q E hr h => ?_), b⟩
  · obtain ⟨kp, d, pd, l, tw, ns, rfl, _⟩ := h; rfl
  · obtain ⟨kp, d, pd, l, tw, ns, rfl, hk, hpd, npd, hl, hns, htw, kq, kc⟩ := h
    have nd := sc_Lg.nd
    refine ⟨_, pss_cons (ps_set (i := 4) nd rfl (.inl rfl) pe_int)
      (pss_cons (ps_for (passes_of rfl) rfl (pi_range3 (by rfl) T.b_range (pa_cons pe_int (pa_cons (pe_op op_sub (pe_callB call_len (by rfl) T.b_len bt_len (pa_cons (pv 2) pa_nil)) pe_int) (pa_cons pe_int pa_nil)))) (pg_name (i := 5) nd rfl (.inl rfl))
        (pss_cons (ps_set (i := 6) nd rfl (.inl rfl) (pe_callO (ok_Lk T) hr (by rfl) T.g_L_key T.d_L_key.kp no0 (pa_cons (pe_ix ix_list (pv 2) (pv 5) (fun _ _ => rfl)) (pa_cons (pv 3) pa_nil))))
        (pss_one (ps_if (pt_cmpR op_eq (pe_op op_mod (pe_ix ix_list (pv 2) (pe_op op_add (pv 5) pe_int) (fun _ _ => rfl)) pe_int) pe_int (nomark _))
          (pss_cons (ps_expr (pe_dpop2 (pv 1) (pv 6) pe_non ⟨by rfl, by rfl, by rfl, by rfl⟩))
          (pss_one (ps_set (i := 4) nd rfl (.inl rfl) (pe_callO (ok_CU T) hr (by rfl) T.g_cut T.d_cut.kp (up (takes_of rfl rfl rfl rfl)) (pa_cons (pv 0) (pa_cons (pv 4) (pa_cons (pv 6) pa_nil)))))))
          (pss_cons (ps_dput (hu_of hr) (pv 1) (pv 6) (pe_callO (ok_Lw T) hr (by rfl) T.g_L_worth T.d_L_worth.kp no0 (pa_cons (pe_ix ix_list (pv 2) (pe_op op_add (pv 5) pe_int) (fun _ _ => rfl)) (pa_cons (pv 3) pa_nil))) rfl)
          (pss_one (ps_set (i := 4) nd rfl (.inl rfl) (pe_callO (ok_PU T .keeper) hr (by rfl) T.g_put T.d_put.kp (up (takes_of rfl rfl rfl rfl)) (pa_cons (pv 0) (pa_cons (pv 4) (pa_cons (pv 6) (pa_cons (pe_dget (hu_of hr) (pv 1) (pv 6) (fun _ _ => rfl)) pa_nil))))))))))))
      (pss_one (ps_ret (pv 4)))), ?_⟩
    have hkd : ∃ o, H d = some o := by
      obtain ⟨_, _, kvs, q, _⟩ := hk
      exact ⟨_, q⟩
    refine ⟨_, rfl, _, (ns.map V.int).length, rfl, .inl ⟨_, SqL.of hl, rfl⟩, _, _, rfl, rfl, 0, 40, 3, 14, ?_, rgc3, ?_⟩
    · rw [List.length_map, hns]; rfl
    refine for_rangeC (lo := 0) (c := 3) (n := 14) (fun i σ H' => ∃ t m n5 n6 kvs, σ = [some (.ref kp), some (.ref pd), some (.ref l), some (.int tw), some (.int (Tr.root t)), n5, n6] ∧ Fit [d, pd] H H' ∧ PlainAt A.cK H' kp d m ∧ Mok m ∧ m.length ≤ 20 * i ∧ t.Ok ∧ t.size ≤ i ∧ (∀ x ∈ t.nodes, M.get m (sealOf x) = some x) ∧
      H' pd = some (.dK kvs) ∧ kvs.length ≤ i) ⟨.nil, [], none, none, [], rfl, Fit.refl _ _, hk, .nil, by decide, trivial, by decide, fun x hx => by (cases hx), hpd, by decide⟩ ?_ ?_
    · rintro i σ H' hi ⟨t, m, n5, n6, kvs, rfl, fit, pl, mok, mlen, tok, ts, hin, hpd', klen⟩
      have hl' := fit.lst hl
      have e3 : ∀ j : Nat, (0 + (i : Nat) * (3 : Int)) + (j : Int) = ((3 * i + j : Nat) : Int) := fun j => by omega
      refine ⟨_, rfl, _, rfl, l, _, _, _, rfl, rfl, SqL.of hl', by rw [show (0 + (i : Nat) * (3 : Int)) = ((3 * i : Nat) : Int) by omega]; exact atI_cell (by omega), _, rfl, _, tw, rfl, htw, fun H1 kv key s1 hkv hkey => ?_⟩
      have fit1 : Fit [d, pd] H H1 := fit.trans (.same s1)
      have hl1 := fit1.lst hl
      have pl1 := pl.nl (.same s1)
      have hpd1 := s1 _ _ hpd'
      obtain ⟨dk, edk⟩ := key_dk hkv hkey
      subst edk
      refine ⟨_, rfl, _, rfl, _, _, rfl, rfl, l, _, _, _, rfl, rfl, SqL.of hl1, by rw [show (0 + (i : Nat) * (3 : Int) + 2) = ((3 * i + 2 : Nat) : Int) by omega]; exact atI_cell (by omega), _, _, rfl, rfl, (by show (0 : Int) < 5; decide), rfl, _, rfl, ?_⟩
      by_cases c0 : cellOf ns (3 * i + 2) % 5 = 0
      · rw [decide_eq_true (show V.int (cellOf ns (3 * i + 2) % 5) = V.int 0 by rw [c0])]
        have np : pd ∉ [d] := by simpa using npd
        have up2 : ∀ {H2 H3 : Hp}, Fit [d, pd] H H2 → Fit [d] H2 H3 → Fit [d, pd] H H3 := fun f2 f3 => f2.trans (f3.mono fun b hb => by rw [List.mem_singleton.mp hb]; simp)
        have inv : ∀ (H2 H3 : Hp) (kvs2 : List (Key × V)) (t' : Tr) (m' : M), Fit [d, pd] H H2 → H2 pd = some (.dK kvs2) → kvs2.length ≤ i → Fit [d] H2 H3 → PlainAt A.cK H3 kp d m' → Mok m' → m'.length ≤ 20 * (i + 1) → t'.Ok → t'.size ≤ i + 1 → (∀ x ∈ t'.nodes, M.get m' (sealOf x) = some x) →
            ∃ t m n5 n6 kvs, [some (V.ref kp), some (.ref pd), some (.ref l), some (.int tw), some (.int (Tr.root t')), some (.int (0 + (i : Nat) * (3 : Int))), some (kV dk)] = [some (.ref kp), some (.ref pd), some (.ref l), some (.int tw), some (.int (Tr.root t)), n5, n6] ∧ Fit [d, pd] H H3 ∧ PlainAt A.cK H3 kp d m ∧ Mok m ∧ m.length ≤ 20 * (i + 1) ∧ t.Ok ∧ t.size ≤ i + 1 ∧ (∀ x ∈ t.nodes, M.get m (sealOf x) = some x) ∧
              H3 pd = some (.dK kvs) ∧ kvs.length ≤ i + 1 := fun H2 H3 kvs2 t' m' f2 hpd2 kl2 f3 p3 mok3 ml3 tok3 ts3 hin3 =>
          ⟨t', m', _, _, kvs2, rfl, up2 f2 f3, p3, mok3, ml3, tok3, ts3, hin3, f3 _ _ hpd2 (.inl np), by omega⟩
        refine iteT ⟨_, rfl, pd, rfl, .inl ⟨_, .inl hpd1⟩, _, rfl, kvs, dk, hpd1, rfl, fun v ev => ?_, fun _ => ?_⟩
        · have fp : Fit [pd] H1 (upd H1 pd (.dK (dropK kvs dk))) := (Fit.refl _ _).dict hpd1 (by simp)
          have pl2 := pl1.fit fp (by simpa using npd.symm)
          have dl := dropK_le kvs dk
          have fitA : Fit [d, pd] H (upd H1 pd (.dK (dropK kvs dk))) := fit1.trans (fp.mono fun b hb => by rw [List.mem_singleton.mp hb]; simp)
          have hpdA : (upd H1 pd (.dK (dropK kvs dk))) pd = some (.dK (dropK kvs dk)) := upd_same
          refine ⟨_, rfl, _, rfl, _, rfl, kp, [d], plainS m, t, key, kV dk, rfl, ⟨d, rfl, rfl, rfl, pl2⟩, plainS_ok mok, Nat.zero_le _, show m.length ≤ _ by omega, tok, by omega, hkv.key hkey, hkey, fun x hx => by rw [see_plainS]; exact hin x hx, fun e0 H3 f3 v3 => ?_, fun u ls eu lok H3 f3 v3 => ?_, fun u ls eu nl H3 dd f3 ca => kc H3 dd (up2 fitA f3) ca⟩
          · obtain ⟨d', e, _, _, p3⟩ := v3
            cases e
            exact inv _ H3 (dropK kvs dk) t m fitA hpdA (by omega) f3 p3 mok (by omega) tok (by omega) hin
          · obtain ⟨d', e, _, _, p3⟩ := v3
            cases e
            obtain ⟨uok, us, ulen, uall, unod⟩ := cut_facts eu tok (by omega)
            have q := layAll_len ls m
            exact inv _ H3 (dropK kvs dk) u (layAll m ls) fitA hpdA (by omega) f3 p3 (layAll_ok mok uall) (by omega) uok (by omega) (fun x hx => lay_keep lok ((unod x hx).imp (hin x) id))
        · refine ⟨_, rfl, _, rfl, _, rfl, kp, [d], plainS m, t, key, kV dk, rfl, ⟨d, rfl, rfl, rfl, pl1⟩, plainS_ok mok, Nat.zero_le _, show m.length ≤ _ by omega, tok, by omega, hkv.key hkey, hkey, fun x hx => by rw [see_plainS]; exact hin x hx, fun e0 H3 f3 v3 => ?_, fun u ls eu lok H3 f3 v3 => ?_, fun u ls eu nl H3 dd f3 ca => kc H3 dd (up2 fit1 f3) ca⟩
          · obtain ⟨d', e, _, _, p3⟩ := v3
            cases e
            exact inv _ H3 kvs t m fit1 hpd1 (by omega) f3 p3 mok (by omega) tok (by omega) hin
          · obtain ⟨d', e, _, _, p3⟩ := v3
            cases e
            obtain ⟨uok, us, ulen, uall, unod⟩ := cut_facts eu tok (by omega)
            have q := layAll_len ls m
            exact inv _ H3 kvs u (layAll m ls) fit1 hpd1 (by omega) f3 p3 (layAll_ok mok uall) (by omega) uok (by omega) (fun x hx => lay_keep lok ((unod x hx).imp (hin x) id))
      · rw [decide_eq_false (show ¬ V.int (cellOf ns (3 * i + 2) % 5) = V.int 0 from fun z => c0 (V.int.inj z))]
        refine iteF ⟨_, rfl, _, rfl, _, _, rfl, rfl, l, _, _, _, rfl, rfl, SqL.of hl1, by rw [show (0 + (i : Nat) * (3 : Int) + 1) = ((3 * i + 1 : Nat) : Int) by omega]; exact atI_cell (by omega), _, rfl, _, tw, rfl, htw, fun H2 wv wo s2 hwv hwo => ?_⟩
        have hpd2 := s2 _ _ hpd1
        have fit2 : Fit [d, pd] H H2 := fit1.trans (.same s2)
        have hkv2 := hkv.keep (Same.tk s2)
        refine ⟨_, rfl, _, rfl, pd, _, rfl, DPut.k (k := dk) (v := wv) hpd2 (Nat.lt_of_le_of_lt (show kvs.length ≤ 10 ^ 6 by omega) big2), ?_⟩
        have fp : Fit [pd] H2 (upd H2 pd (.dK (putK kvs dk wv))) := (Fit.refl _ _).dict hpd2 (by simp)
        have pl3 := (pl1.nl (.same s2)).fit fp (by simpa using npd.symm)
        have fit3 : Fit [d, pd] H (upd H2 pd (.dK (putK kvs dk wv))) := fit2.trans (fp.mono fun b hb => by rw [List.mem_singleton.mp hb]; simp)
        have np : pd ∉ [d] := by simpa using npd
        have pkl := putK_le kvs dk wv
        refine ⟨_, rfl, _, rfl, _, rfl, _, rfl, _, rfl, pd, wv, rfl, ?_, ?_⟩
        · have g := DGet.k (k := dk) (H := upd H2 pd (.dK (putK kvs dk wv))) upd_same
          rw [valV_put, if_pos rfl] at g
          exact g
        · refine ⟨kp, [d], plainS m, t, key, wo, kV dk, wv, rfl, ⟨d, rfl, rfl, rfl, pl3⟩, plainS_ok mok, Nat.zero_le _, show m.length ≤ _ by omega, tok, by omega, hkv.key hkey, hkey, hwv.keep fp.tk, hwo.1, hwo.2, fun x hx => .inl (by rw [see_plainS]; exact hin x (putR_nodes x hx)), fun sn lok H4 f4 v4 => ?_, fun sn nl H4 dd f4 ca => ?_, fun lost => ?_⟩
          · obtain ⟨d', e, _, _, p4⟩ := v4
            cases e
            have er : ((plainS m).rds (putR t key)).lays (putL t key wo) = (plainS m).lays (putL t key wo) := by
              show VS.mk _ _ _ = VS.mk _ _ _
              have : ∀ l : List PV.T, (plainS m).rds l = plainS m := fun l => by
                induction l with
                | nil => rfl
                | cons y l ih => show VS.rds ((plainS m).rd y) l = _; rw [plain_rd rfl y]; exact ih
              rw [this]
            rw [er] at p4
            have q := layAll_len (putL t key wo) m
            have ll := putL_len t key wo
            have psz := put_size t key wo
            have pm := putMore_le t key
            refine ⟨put t key wo, layAll m (putL t key wo), _, _, _, rfl, fit3.trans (f4.mono fun b hb => by rw [List.mem_singleton.mp hb]; simp), p4, layAll_ok mok (putL_ok tok (by omega) hkey hwo.1 hwo.2), by omega, put_ok tok hkey hwo.1 hwo.2, by omega, fun x hx => lay_keep lok ((put_nodes x hx).imp (hin x) id), f4 _ _ upd_same (.inl np), by omega⟩
          · exact kc H4 dd (fit3.trans (f4.mono fun b hb => by rw [List.mem_singleton.mp hb]; simp)) ca
          · obtain ⟨y, hy, e⟩ := lost
            rw [see_plainS, hin y (putR_nodes y hy)] at e
            cases e
    · rintro σ H' ⟨t, m, n5, n6, kvs, rfl, fit, pl, mok, mlen, tok, ts, hin, hpd', klen⟩
      exact ⟨_, rfl, kq H' t m fit pl ⟨mok, mlen, tok, ts, hin⟩⟩
end
end PV
/-! W8: _law_one. -/
namespace PV
open PySem PySem.Spec L2
theorem pys_any {x : T} : ∀ l : List T, ((T.pys l).any fun z => PyData.eqv z x.py) = decide (x ∈ l)
  | [] => by simp [T.pys]
  | t :: l => by
    rw [T.pys, List.any_cons, pys_any l, eqv_dec]
    by_cases e : t = x
    · subst e; simp
    · by_cases h : x ∈ l
      · simp [h]
      · rw [decide_eq_false e, decide_eq_false h, decide_eq_false (by intro z; rcases List.mem_cons.mp z with z | z; exact e z.symm; exact h z)]
        rfl
theorem cutV_last (xs : List V) : cutV xs none (some (-1)) = xs.dropLast := by
  unfold cutV
  rw [HT.sIx_none, List.drop_zero, List.dropLast_eq_take]
  congr 1
  show (if (-1 : Int) < 0 then ((-1 : Int) + (xs.length : Int)).toNat else min (-1 : Int).toNat xs.length) - 0 = _
  rw [if_pos (by decide)]
  omega
theorem ThA.dropLast {H : Hp} {l : List T} {xs : List V} (h : ThA H l xs) : ThA H l.dropLast xs.dropLast := by
  have e := h.len
  rw [List.dropLast_eq_take, List.dropLast_eq_take, e]
  exact ThA.take _ h
theorem ThA.getL {H : Hp} : ∀ {l : List T} {xs : List V} {i : Nat} {t : T}, ThA H l xs → l[i]? = some t → ∃ x, xs[i]? = some x ∧ Th H t x
  | [], _, _, _, h, e => by simp at e
  | t :: l, _, 0, x, ⟨y, ys, e, h, q⟩, e2 => by subst e; simp at e2; subst e2; exact ⟨y, rfl, h⟩
  | t :: l, _, i + 1, x, ⟨y, ys, e, h, q⟩, e2 => by
    subst e
    obtain ⟨t', a, b⟩ := ThA.getL (i := i) (t := x) q (by simpa using e2)
    exact ⟨t', by simpa using a, b⟩
theorem eqv_list (a b : List PyData) : PyData.eqv (.list a) (.list b) = PyData.eqvAll a b := by rw [PyData.eqv]
theorem units65 {k : Nat} {A : Around} (r : Room k A) : A.units + 65 < cLine := by have := r.un; omega
section
variable {P : Program} {w : World} {K : PySem.W.Frag} {mg : Str → Option Value} {base : Heap} {A : Ad}
def spL1 (A : Ad) : Sp := fun vs H Q E => ∃ kp d m t c tw, vs = [.ref kp, .int (Tr.root t), .int c, .int tw] ∧ PlainAt A.cK H kp d m ∧ Grown m t ∧ (tw = 0 ∨ tw = 1) ∧
  (∀ H', Same H H' → Q (.bl true) H') ∧ (∀ H' dd, Same H H' → ClashAt A H' (.ref A.cCL) (some dd) → E (.ref A.cCL) (some dd) H')
theorem sc_L1 : FnScope ["keeper", "root", "cell", "twin", "number", "worth", "ask", "due", "paper", "before", "full", "news", "other", "words", "one"] ["keeper", "root", "cell", "twin"] (defScope (top 66)) := ⟨rfl, rfl, rfl, by decide +kernel, rfl, by decide +kernel, by decide +kernel⟩
theorem ok_L1 (T : Txt K mg A) : Okf P w K mg base (L2.CX P w) 14 A.fL1 ["keeper", "root", "cell", "twin"] (spL1 A) := by
  obtain ⟨fd, F, b⟩ := T.d_L_one
  refine ⟨fd, F.okX sc_L1 (fun vs H Q E h => ?_) (fun cdv Ar outer s H vs Q E hr h => ?_), b⟩
  · obtain ⟨kp, d, m, t, c, tw, rfl, _⟩ := h; rfl
  · obtain ⟨kp, d, m, t, c, tw, rfl, hk, gr, htw, kq, kc⟩ := h
    have nd := sc_L1.nd
    refine ⟨_, pss_cons (ps_set (i := 4) nd rfl (.inl rfl) (pe_op op_fdiv (pv 2) pe_int))
      (pss_cons (ps_set (i := 5) nd rfl (.inl rfl) (pe_tup (pa_cons (pe_ix ix_list (pe_lst (pa_cons pe_int (pa_cons (pe_un un_neg pe_int) pa_nil))) (pv 3) (fun _ _ => rfl)) (pa_cons (pe_op op_mod (pe_op op_fdiv (pv 4) pe_int) pe_int) pa_nil))))
      (pss_cons (ps_set (i := 6) nd rfl (.inr rfl) (pe_makeO T.k_cPut (ok_Pi T) hr (by rfl) T.g_Put pass0 (pa_cons (pe_callO (ok_Lk T) hr (by rfl) T.g_L_key T.d_L_key.kp no0 (pa_cons (pv 4) (pa_cons (pv 3) pa_nil))) (pa_cons (pv 5) pa_nil))))
      (pss_cons (ps_asg (pe_callO (ok_AP T) hr (by rfl) T.g_answer_with_paper T.d_answer_with_paper.kp (up (takes_of rfl rfl rfl rfl)) (pa_cons (pv 0) (pa_cons (pv 1) (pa_cons (pv 6) pa_nil)))) (pg_tup (by rfl) (pgs_cons (pg_name (i := 7) nd rfl (.inl rfl)) (pgs_cons (pg_name (i := 8) nd rfl (.inr rfl)) pgs_nil))))
      (pss_cons (ps_set (i := 9) nd rfl (.inr rfl) (pe_callTy call_list_of (by rfl) T.b_list bt_list (pa_cons (pe_methO0 (pv 0) T.i_cK T.m_cK_things (ok_Kt T) hr no0) pa_nil)))
      (pss_cons (ps_set (i := 10) nd rfl (.inl rfl) (pe_callO (ok_Ly T) hr (by rfl) T.g_L_copy T.d_L_copy.kp no0 (pa_cons (pv 0) pa_nil)))
      (pss_cons (ps_expr (pe_methO (pv 6) T.i_cPut T.m_cPut_answer (ok_Pa T .keeper) hr (up (takes_of rfl rfl rfl rfl)) (pa_cons (pv 10) (pa_cons (pv 1) pa_nil))))
      (pss_cons (ps_setLc (i := 11) (own := [("one", 14)]) (g := gName 14) (tt := tAnd (tTest (tOp (rNotInD K) (tVar 14) (tVar 9))) (tTest (tOp (rNeD K) (tCallS (spLn 2) (fun _ => E0) (tCons (tVar 14) tNil)) (tVar 14)))) (te := tVar 14) rfl nd rfl rfl (sw_true rfl rfl rfl (by decide +kernel)) (pi_list (pe_methO0 (pv 10) T.i_cK T.m_cK_things (ok_Kt T) hr no0))
        (blkOk_by (N := ["keeper", "root", "cell", "twin", "number", "worth", "ask", "due", "paper", "before", "full", "news", "other", "words", "one"]) (sc := defScope (top 66)) (by decide +kernel)) (fun _ _ _ _ _ => pg_name (i := 14) nd rfl (Or.inl rfl))
        (fun _ _ _ _ _ => pts_one (PW.pt (pw_and (pt_cmpR (op_notInD (units65 hr)) (pv 14) (pv 9) (by rfl)) (pw_and1 (pt_cmpR (op_neD hr.units) (pe_callO (ok_Ln T 2) hr (by rfl) T.g_L_twinned T.d_L_twinned.kp no0 (pa_cons (pv 14) pa_nil)) (pv 14) (nomark _))))))
        (fun _ _ _ _ _ => pv 14))
      (pss_cons (ps_if (PW.pt (pw_or (pt_cmpR op_ne (pe_callO (ok_CH T) hr (by rfl) T.g_checked T.d_checked.kp (up (takes_of rfl rfl rfl rfl)) (pa_cons (pv 1) (pa_cons (pv 6) (pa_cons (pv 8) pa_nil)))) (pv 7) (nomark _)) (pw_or1 (pt_cmpR op_ne (pe_callO (ok_SH T) hr (by rfl) T.g_shown T.d_shown.kp no0 (pa_cons (pv 1) (pa_cons (pv 6) (pa_cons (pv 8) (pa_cons (pv 0) pa_nil))))) pe_str (nomark _))))) pss_never pss_nil)
      (pss_cons (ps_if (pt_cmpR (op_neD hr.units) (pv 11) (pe_lst pa_nil) (nomark _))
        (pss_cons (ps_set (i := 12) nd rfl (.inl rfl) (pe_callO (ok_Ly T) hr (by rfl) T.g_L_copy T.d_L_copy.kp no0 (pa_cons (pv 0) pa_nil)))
        (pss_cons (ps_expr (pe_methO (pv 12) T.i_cK T.m_cK_lay (ok_lay T .keeper) hr (up (takes_of rfl rfl rfl rfl)) (pa_cons (pe_callO (ok_Ln T 2) hr (by rfl) T.g_L_twinned T.d_L_twinned.kp no0 (pa_cons (pe_ix ix_list (pv 11) (pe_op op_mod (pe_op op_fdiv (pv 4) pe_int) (pe_callB call_len (by rfl) T.b_len bt_len (pa_cons (pv 11) pa_nil))) (fun _ _ => rfl)) pa_nil)) pa_nil)))
        (pss_one (ps_if (pt_cmpR op_ne (pe_callO (ok_SH T) hr (by rfl) T.g_shown T.d_shown.kp no0 (pa_cons (pv 1) (pa_cons (pv 6) (pa_cons (pv 8) (pa_cons (pv 12) pa_nil))))) pe_str (nomark _)) pss_never pss_nil)))) pss_nil)
      (pss_cons (ps_setLc (i := 13) (own := [("one", 14)]) (g := gName 14) (tt := tYes) (te := tCallS (spSH A) (fun _ => E0) (tCons (tVar 1) (tCons (tVar 6) (tCons (L2.tSl (rSlL K) (tVar 8) tNoPart (tPart (tUn (fun x H Q => ∃ i, x = .int i ∧ Q (.int (-i)) H) (tC (.int 1))))) (tCons (tVar 14) tNil))))) rfl nd rfl rfl (sw_true rfl rfl rfl (by decide +kernel))
        (pi_tup (pe_tup (pa_cons (pv 0) (pa_cons (pe_makeO0 T.k_cK (ok_Vi T) hr (by rfl) T.g_Keeper pass0) pa_nil))))
        (blkOk_by (N := ["keeper", "root", "cell", "twin", "number", "worth", "ask", "due", "paper", "before", "full", "news", "other", "words", "one"]) (sc := defScope (top 66)) (by decide +kernel)) (fun _ _ _ _ _ => pg_name (i := 14) nd rfl (Or.inl rfl)) (fun _ _ _ _ _ => pts_nil)
        (fun _ _ _ _ _ => pe_callO (ok_SH T) hr (by rfl) T.g_shown T.d_shown.kp no0 (pa_cons (pv 1) (pa_cons (pv 6) (pa_cons (pe_slice sl_list (pv 8) po_none (po_some (pe_un un_neg pe_int))) (pa_cons (pv 14) pa_nil))))))
      (pss_cons (ps_if (PW.pt (pw_or (PW.pt (pw_and (pt_cmpR (op_neD hr.units) (pv 8) (pe_lst pa_nil) (nomark _)) (pw_and1 (pt_cmpR (op_neD hr.units) (pv 13) (pe_lst (pa_cons pe_str (pa_cons pe_str pa_nil))) (nomark _))))) (pw_or1 (pt_cmpR (op_neD hr.units) (pe_methO0 (pv 0) T.i_cK T.m_cK_things (ok_Kt T) hr no0) (pv 9) (nomark _))))) pss_never pss_nil)
      (pss_one (ps_ret (pe_cmpR op_eq (pe_callO (ok_SH T) hr (by rfl) T.g_shown T.d_shown.kp no0 (pa_cons (pv 1) (pa_cons (pv 6) (pa_cons (pv 8) (pa_cons (pe_makeO0 T.k_cK (ok_Vi T) hr (by rfl) T.g_Keeper pass0) pa_nil)))))
        (pe_ix ix_list (pe_lst (pa_cons pe_str (pa_cons pe_str pa_nil))) (pe_callTy call_int1 (by rfl) T.b_int bt_int (pa_cons (pe_cmpR (op_neD hr.units) (pv 8) (pe_lst pa_nil) (nomark _)) pa_nil)) (fun _ _ => rfl)) (nomark _))))))))))))))), ?_⟩
    -- READING
    have mok := gr.mok
    have mlen : m.length ≤ 900000 := Nat.le_trans gr.len (by decide)
    have ts13 : t.size ≤ 299 := Nat.le_trans gr.size (by decide)
    obtain ⟨x1, ex1, b1, b2⟩ : ∃ x : Int, atI [V.int 251530379464423, V.int (-1285000000000000000)] tw = some (V.int x) ∧ -MOSTN ≤ x ∧ x ≤ MOSTN := by
      rcases htw with rfl | rfl
      · exact ⟨_, atI_nat (j := 0) rfl, by decide, by decide⟩
      · exact ⟨_, atI_nat (j := 1) rfl, by decide, by decide⟩
    refine ⟨_, rfl, _, _, rfl, rfl, ⟨by decide, by decide⟩, ?_⟩
    refine ⟨_, rfl, by show 2 ≤ sizeLine; decide, fun p0 hp0 => ⟨_, rfl, p0, _, _, _, rfl, rfl, SqL.of upd_same, ex1, _, rfl, _, _, rfl, rfl, ⟨by decide, by decide⟩, _, _, rfl, rfl, (by show (0 : Int) < 5; decide), by show 2 ≤ sizeLine; decide, fun q0 hq0 => ?_⟩⟩
    obtain ⟨wo, ewo⟩ : ∃ wo, wo = PV.T.tup [.int x1, .int (c / 3 / 70 % 5)] := ⟨_, rfl⟩
    have wor : Wor wo := by
      subst ewo
      have e1 : (5 : Int) ≤ MOSTN := by decide
      refine ⟨?_, by intro z; cases z⟩
      simp only [PV.T.within, PV.T.withins, List.length_cons, List.length_nil, Bool.true_and, Bool.and_true, Bool.and_eq_true, decide_eq_true_eq]
      exact ⟨⟨by decide, by decide⟩, ⟨b1, b2⟩, by omega, by omega⟩
    have s1 := Same.trans (Same.fresh (o := HO.lst [V.int 251530379464423, V.int (-1285000000000000000)]) hp0) (Same.fresh (o := HO.tup [V.int x1, V.int (c / 3 / 70 % 5)]) hq0)
    have hwo := show Th _ wo (V.ref q0) from by
      rw [ewo]
      exact ⟨q0, _, rfl, upd_same (H := upd H p0 (HO.lst [V.int 251530379464423, V.int (-1285000000000000000)])) (o := HO.tup [V.int x1, V.int (c / 3 / 70 % 5)]), _, _, rfl, rfl, _, _, rfl, rfl, rfl⟩
    refine ⟨_, rfl, _, rfl, _, tw, rfl, htw, fun H2 kv key s2 hkv hkey => ⟨_, rfl, fun x dx hx hdx nex => ⟨x, kv, .ref q0, dx, rfl, upd_same, fun H3 keep hins => ⟨rfl, ?_⟩⟩⟩⟩
    have s3 : Same H2 H3 := fun c o q => keep c o (by rw [upd_ne (ne_of_none q hx), upd_ne (ne_of_none q hdx)]; exact q) (ne_of_none q hx)
    have s03 : Same H H3 := Same.trans (Same.trans s1 s2) s3
    have ask3 : AskAt A H3 x key wo := ⟨dx, kv, .ref q0, hins, hkv.keep (Same.tk s3), hwo.keep (Same.tk (Same.trans s2 s3))⟩
    clear hwo ewo
    refine ⟨_, rfl, _, rfl, _, rfl, kp, d, m, t, x, key, wo, rfl, hk.nl (.same s03), mok, mlen, gr.ok, ts13, ask3, hkey, wor, gr.nodes, fun lok H4 pp l xs s4 hl hpp hxs hth => ?_, fun nlk H4 dd s4 ca => kc H4 dd (Same.trans s03 s4) ca⟩
    refine ⟨pp, _, rfl, SqT.of hpp, rfl, _, _, rfl, _, _, rfl, rfl, ?_⟩
    have s04 := Same.trans s03 s4
    have hin := gr.nodes
    -- the paper's things
    obtain ⟨ts, ets⟩ : ∃ ts, ts = things (layAll [] (putR t key)) := ⟨_, rfl⟩
    have rmok : Mok (layAll [] (putR t key)) := rd_mok mok hin
    have pok : POk ts := by
      subst ets
      refine ⟨things_ok rmok, things_nd rmok, ?_⟩
      have q := layAll_len (putR t key) []
      have q0 : ([] : M).length = 0 := rfl
      have q1 := putR_len t key
      have q2 := gr.size
      rw [things_len]
      omega
    have shR : Shows t key wo (layAll [] ts) m "right" := by subst ets; exact shows_right mok hin lok
    have shE : Shows t key wo (layAll [] ts) [] (if ts = [] then "right" else "wrong") := by subst ets; exact shows_empty mok hin lok
    have shC : ∀ m', m' = m ∨ m' = [] → ∃ r, Shows t key wo (layAll [] ts.dropLast) m' r ∧ (ts ≠ [] → r = "refused") := fun m' e => by subst ets; exact shows_cut mok hin lok m' e
    have pokC : POk ts.dropLast := ⟨fun y hy => pok.ok y (List.dropLast_subset _ hy), List.Nodup.sublist (List.Sublist.map _ (List.dropLast_sublist _)) pok.nd, Nat.le_trans (by rw [List.length_dropLast]; omega) pok.len⟩
    have pap4 : PapAt H4 l ts := ⟨xs, hxs, by rw [ets]; exact hth⟩
    have pl4 := hk.nl (.same s04)
    obtain ⟨dxk, hkp4, _⟩ := id pl4
    refine ⟨_, rfl, kp, dxk, _, rfl, hkp4, lookP_no (by decide +kernel), kp, d, m, rfl, pl4, mok, Nat.le_trans mlen (by decide), fun H5 p5 xs5 s5 hp5 hxs5 hth5 => ⟨p5, xs5, rfl, .inl (SqL.of hxs5), fun lb hlb => ?_⟩⟩
    obtain ⟨H6, eH6⟩ : ∃ H6, H6 = upd H5 lb (HO.lst xs5) := ⟨_, rfl⟩
    rw [← eH6]
    simp only [L2.start, List.map_cons, List.map_nil, List.length_cons, List.length_nil, List.replicate, List.cons_append, List.nil_append, List.append_nil, List.set_cons_succ, List.set_cons_zero, Nat.reduceAdd, Nat.reduceSub]
    have s46 : Same H4 H6 := by rw [eH6]; exact Same.trans s5 (Same.fresh hlb)
    have fx : ∀ H', Same H6 H' → Same H H' ∧ PlainAt A.cK H' kp d m ∧ AskAt A H' x key wo ∧ PapAt H' l ts ∧ PapAt H' lb (things m) := fun H' s' =>
      ⟨Same.trans s04 (Same.trans s46 s'), pl4.nl (.same (Same.trans s46 s')), ask3.same (Same.trans s4 (Same.trans s46 s')), pap4.same (Same.trans s46 s'),
        PapAt.same ⟨xs5, by rw [eH6]; exact upd_same, by rw [eH6]; exact hth5.keep (Same.tk (Same.fresh hlb))⟩ s'⟩
    have shTh : SeqAt.shaped (.list (PV.T.pys (things m))) = true := shapeds_of (n := 2) (withins_of (things_ok mok)) (by decide)
    have shTs : SeqAt.shaped (.list (PV.T.pys ts)) = true := shapeds_of (n := 2) (withins_of pok.ok) (by decide)
    obtain ⟨_, pl6, _, _, _⟩ := fx H6 (Same.refl _)
    refine ⟨_, rfl, kp, d, m, rfl, pl6, mok, mlen, fun H7 fz fe s7 hfz hfe plf => ?_⟩
    obtain ⟨_, _, ask7, _, _⟩ := fx H7 s7
    obtain ⟨dx7, kv7, wv7, hx7, _, _⟩ := id ask7
    -- the copy
    have cmok : Mok (layAll [] (things m)) := layAll_ok .nil (things_ok mok)
    have clen : (layAll [] (things m)).length ≤ 900000 := by
      have q := layAll_len (things m) []
      have q0 : ([] : M).length = 0 := rfl
      rw [things_len] at q
      omega
    have lokC : LayOK (plainS (layAll [] (things m))) (putL t key wo) := ⟨fun y hy u hu => lok.1 y hy u (.inl (by
      rcases hu with hu | hu
      · cases hu
      · have hu' : M.get (layAll [] (things m)) (sealOf y) = some u := hu
        rw [copy_get mok] at hu'
        exact hu')), lok.2⟩
    have hinC : ∀ y ∈ putR t key, M.get (layAll [] (things m)) (sealOf y) = some y := fun y hy => by rw [copy_get mok]; exact hin y (putR_nodes y hy)
    have pLok := putL_ok gr.ok ts13 hkey wor.1 wor.2
    refine ⟨_, rfl, x, dx7, _, rfl, hx7, lookPut_ans, _, rfl, _, rfl, x, fz, [fe], plainS (layAll [] (things m)), t, key, wo, rfl, ask7, ⟨fe, rfl, rfl, rfl, plf⟩, plainS_ok cmok, Nat.zero_le _, clen, gr.ok, ts13, hkey, wor.1, wor.2, fun y hy => .inl (by rw [see_plainS]; exact hinC y hy), fun sn _ H8 f8 v8 => ?_, fun sn nl => absurd lokC nl, fun lost => ?_⟩
    · obtain ⟨fe', efe, _, _, plf8⟩ := v8
      cases efe
      have s68 : Same H6 H8 := Same.fit s7 f8 fun b hb => by rw [List.mem_singleton.mp hb]; exact hfe
      obtain ⟨mf, emf⟩ : ∃ mf, mf = layAll (layAll [] (things m)) (putL t key wo) := ⟨_, rfl⟩
      have plf8 : PlainAt A.cK H8 fz fe mf := by
        have e : (((plainS (layAll [] (things m))).rds (putR t key)).lays (putL t key wo)).own = mf := by
          show layAll ((plainS (layAll [] (things m))).rds (putR t key)).own (putL t key wo) = mf
          rw [rds_own, emf]
          rfl
        rw [e] at plf8
        exact plf8
      have fmok : Mok mf := by rw [emf]; exact layAll_ok cmok pLok
      have flen : mf.length ≤ 1000000 := by
        have q := layAll_len (putL t key wo) (layAll [] (things m))
        have q1 := putL_len t key wo
        rw [emf]
        omega
      obtain ⟨dxf, hf8, _⟩ := id plf8
      refine ⟨_, rfl, fz, dxf, _, rfl, hf8, lookP_no (by decide +kernel), fz, fe, mf, rfl, plf8, fmok, flen, fun H9 p9 xs9 s9 hp9 hxs9 hth9 => ⟨p9, rfl, ⟨_, SqL.of hxs9⟩, fun D hD => ?_⟩⟩
      have s69 := Same.trans s68 s9
      have fok := things_ok fmok
      have ftl := things_len mf
      refine lc_list (K := K) (a := p9) (xs := xs9) (fun i H' => Same H9 H' ∧ ∃ acc, H' D = some (.lst acc) ∧ ThA H' (((things mf).take i).filter fun y => decide (y ∉ things m) && decide (y.twin ≠ y)) acc)
        ⟨Same.fresh hD, [], upd_same, rfl⟩ (fun i H' _ ⟨q, _⟩ => SqL.of (q _ _ hxs9)) ?_ ?_
      · rintro i xv H' hi ⟨sm, acc, hacc, hta⟩
        obtain ⟨y, hyi, hyx⟩ := hth9.get hi
        have hyx' := hyx.keep (Same.tk sm)
        obtain ⟨_, _, _, _, xsb, hxb, htb⟩ := fx H' (Same.trans s69 sm)
        have yok := fok y (List.mem_of_getElem? hyi)
        have al := hta.len
        have fl := List.length_filter_le (fun y => decide (y ∉ things m) && decide (y.twin ≠ y)) ((things mf).take i)
        rw [List.length_take] at fl
        refine ⟨rfl, _, rfl, _, rfl, y.py, PV.T.pys (things m), hyx'.dp, .lst (SqL.of hxb) htb.dp, shaped_of (n := 2) yok (by decide), shTh, _, rfl, ?_⟩
        rw [pys_any]
        by_cases c1 : y ∈ things m
        · rw [decide_eq_true c1]
          refine iteF ?_
          refine iteF ⟨sm, acc, hacc, ?_⟩
          rw [take_succ_of hyi, List.filter_append, List.filter_cons, if_neg (by simp [c1]), List.filter_nil, List.append_nil]
          exact hta
        · rw [decide_eq_false c1]
          refine iteT ⟨_, rfl, xv, y, rfl, hyx', yok, fun H'' v' s'' hv' => ⟨_, rfl, y.twin.py, y.py, hv'.dp, (hyx'.keep (Same.tk s'')).dp, shaped_of (n := 2) (twin_within y yok) (by decide), shaped_of (n := 2) yok (by decide), _, rfl, ?_⟩⟩
          rw [eqv_dec]
          by_cases c2 : y.twin = y
          · rw [decide_eq_true c2]
            refine iteF ⟨Same.trans sm s'', acc, s'' _ _ hacc, ?_⟩
            rw [take_succ_of hyi, List.filter_append, List.filter_cons, if_neg (by simp [c2]), List.filter_nil, List.append_nil]
            exact hta.keep (Same.tk s'')
          · rw [decide_eq_false c2]
            have hacc'' := s'' _ _ hacc
            refine iteT ⟨_, rfl, acc, hacc'', ?_, Same.own (Same.trans sm s'') hD, _, upd_same, ?_⟩
            · exact Nat.lt_of_le_of_lt (show acc.length ≤ 10 ^ 6 by omega) big2
            · have nl : NL H'' (upd H'' D (.lst (acc ++ [xv]))) := NL.lst hacc''
              rw [take_succ_of hyi, List.filter_append, List.filter_cons, if_pos (by simp [c1, c2]), List.filter_nil]
              exact ((hta.keep (Same.tk s'')).keep nl.tk).snoc ((hyx'.keep (Same.tk s'')).keep nl.tk)
      · rintro H10 ⟨sm10, acc, hacc, hta⟩
        rw [hth9.len, List.take_length] at hta
        obtain ⟨L, eL⟩ : ∃ L, L = (things mf).filter fun y => decide (y ∉ things m) && decide (y.twin ≠ y) := ⟨_, rfl⟩
        rw [← eL] at hta
        have papN : PapAt H10 D L := ⟨acc, hacc, hta⟩
        have s610 := Same.trans s69 sm10
        have Lmem : ∀ y ∈ L, y ∈ things mf ∧ y ∉ things m ∧ y.twin ≠ y := fun y hy => by
          rw [eL, List.mem_filter] at hy
          simpa using hy
        have shL : SeqAt.shaped (.list (PV.T.pys L)) = true := shapeds_of (n := 2) (withins_of fun y hy => fok y (Lmem y hy).1) (by decide)
        simp only [L2.start, List.map_cons, List.map_nil, List.length_cons, List.length_nil, List.replicate, List.cons_append, List.nil_append, List.append_nil, List.set_cons_succ, List.set_cons_zero, Nat.reduceAdd, Nat.reduceSub]
        obtain ⟨so, lokS⟩ := shows_so shR
        obtain ⟨_, pl10, ask10, pap10, _⟩ := fx H10 s610
        refine ⟨_, rfl, _, rfl, _, rfl, t, x, l, ts, key, wo, rfl, pap10, pok, gr.ok, ts13, ask10, hkey, wor, so, lokS, fun sn H11 s11 => ?_, fun lost => ?_⟩
        · refine ⟨_, rfl, rfl, _, rfl, ?_⟩
          rw [decide_eq_true rfl]
          have s611 := Same.trans s610 s11
          obtain ⟨_, pl11, ask11, pap11, _⟩ := fx H11 s611
          refine iteF ⟨_, rfl, _, rfl, _, rfl, _, rfl, t, x, l, kp, d, m, ts, key, wo, _, rfl, pap11, pok, pl11, mok, gr.ok, ts13, ask11, hkey, wor, shR, fun H12 s12 => ⟨rfl, _, rfl, ?_⟩⟩
          rw [decide_eq_true rfl]
          refine iteF ⟨_, rfl, Nat.zero_le _, fun ea hea => ?_⟩
          have s612 := Same.trans s611 s12
          have s613 := Same.trans s612 (Same.fresh (o := HO.lst []) hea)
          obtain ⟨accN, haccN, htaN⟩ := papN.same (Same.trans (Same.trans s11 s12) (Same.fresh (o := HO.lst []) hea))
          refine ⟨.list (PV.T.pys L), .list (PV.T.pys []), .lst (SqL.of haccN) htaN.dp, .lst (SqL.of upd_same) .nil, shL, by decide +kernel, _, rfl, ?_⟩
          rw [eqv_list, eqvs_dec]
          by_cases hL : L = []
          · rw [decide_eq_true hL]
            refine iteF ?_
            have s6f := s613
            simp only [L2.start, List.map_cons, List.map_nil, List.length_cons, List.length_nil, List.replicate, List.cons_append, List.nil_append, List.append_nil, List.set_cons_succ, List.set_cons_zero, Nat.reduceAdd, Nat.reduceSub]
            obtain ⟨_, plF, _, papF, _⟩ := fx _ s6f
            refine ⟨_, rfl, ?_⟩
            unfold tCons
            refine make_keeper T fun Hk kx ke sk hkx hke plk => ⟨by show 2 ≤ sizeLine; decide, fun tq htq => ⟨tq, rfl, ⟨_, SqT.of upd_same⟩, fun D2 hD2 => ?_⟩⟩
            have s6q := Same.trans (Same.trans s6f sk) (Same.fresh (o := HO.tup [V.ref kp, V.ref kx]) htq)
            have hkpq := (fx _ s6q).2.1
            have plkq := plk.nl (.same (Same.fresh (o := HO.tup [V.ref kp, V.ref kx]) htq))
            have htqq : (upd Hk tq (HO.tup [V.ref kp, V.ref kx])) tq = some (.tup [V.ref kp, V.ref kx]) := upd_same
            refine lc_tup (K := K) (a := tq) (xs := [V.ref kp, V.ref kx]) (fun i H' => Same (upd Hk tq (HO.tup [V.ref kp, V.ref kx])) H' ∧ ∃ acc : List Str, H' D2 = some (.lst (acc.map V.str)) ∧ acc.length = i ∧ (ts ≠ [] → ∀ r ∈ acc, r = "refused"))
              ⟨Same.fresh hD2, [], upd_same, rfl, fun _ _ h => by (cases h)⟩ (fun i H' _ ⟨q, _⟩ => SqT.of (q _ _ htqq)) ?_ ?_
            · rintro i xv H' hi ⟨sm, acc, hacc, al, hall⟩
              obtain ⟨_, plV, askV, papV, _⟩ := fx H' (Same.trans s6q sm)
              obtain ⟨xsl, hxsl, hthl⟩ := papV
              obtain ⟨vx, vd, mv, exv, plv, mvok, emv⟩ : ∃ vx vd mv, xv = V.ref vx ∧ PlainAt A.cK H' vx vd mv ∧ Mok mv ∧ (mv = m ∨ mv = []) := by
                match i, hi with
                | 0, hi => cases hi; exact ⟨kp, d, m, rfl, plV, mok, .inl rfl⟩
                | 1, hi => cases hi; exact ⟨kx, ke, [], rfl, plkq.nl (.same sm), .nil, .inr rfl⟩
                | n + 2, hi => simp at hi
              subst exv
              obtain ⟨r, shr, hr2⟩ := shC mv emv
              refine ⟨rfl, ?_⟩
              simp only [tYes, ↓reduceIte]
              refine ⟨_, rfl, _, rfl, _, rfl, _, rfl, _, rfl, l, xsl, rfl, SqL.of hxsl, fun ps hps => ?_⟩
              have sps := Same.fresh (o := HO.lst (cutV xsl none (some (-1)))) hps
              refine ⟨_, rfl, t, x, ps, vx, vd, mv, ts.dropLast, key, wo, r, rfl, ⟨cutV xsl none (some (-1)), upd_same, by have q := hthl.dropLast.keep (Same.tk sps); rw [← cutV_last] at q; exact q⟩, pokC, plv.nl (.same sps), mvok, gr.ok, ts13, askV.same sps, hkey, wor, shr, fun H'' s'' => ?_⟩
              have sall := Same.trans sps s''
              have hacc2 := sall _ _ hacc
              refine ⟨acc.map V.str, hacc2, ?_, Same.own (Same.trans sm sall) hD2, acc ++ [r], ?_, by simp [al], fun hne r' hr' => ?_⟩
              · have hi2 : i < 2 := by
                  have q := (List.getElem?_eq_some_iff.mp hi).1
                  simpa using q
                rw [List.length_map, al]
                exact Nat.lt_of_le_of_lt (show i ≤ 10 ^ 6 by omega) big2
              · rw [upd_same, List.map_append]
                rfl
              · rcases List.mem_append.mp hr' with q | q
                · exact hall hne r' q
                · rw [List.mem_singleton.mp q]; exact hr2 hne
            · rintro Hw ⟨smw, acc, hacc, al, hall⟩
              have s6w := Same.trans s6q smw
              obtain ⟨_, plW, askW, papW, befW⟩ := fx Hw s6w
              obtain ⟨xsw, hxw, htw'⟩ := papW
              refine ⟨_, rfl, Nat.zero_le _, fun eb heb => ?_⟩
              have sb := Same.fresh (o := HO.lst []) heb
              refine ⟨.list (PV.T.pys ts), .list (PV.T.pys []), .lst (SqL.of (sb _ _ hxw)) (htw'.keep (Same.tk sb)).dp, .lst (SqL.of upd_same) .nil, shTs, by decide +kernel, _, rfl, ?_⟩
              rw [eqv_list, eqvs_dec]
              by_cases hne : ts = []
              · rw [decide_eq_true hne]
                refine iteF ?_
                refine iteF ?_
                have s6t := Same.trans s6w sb
                obtain ⟨_, plT, _, _, _⟩ := fx _ s6t
                obtain ⟨dxt, hkpt, _⟩ := id plT
                refine ⟨_, rfl, kp, dxt, _, rfl, hkpt, lookP_no (by decide +kernel), kp, d, m, rfl, plT, mok, Nat.le_trans mlen (by decide), fun Hu pu xu su hpu hxu htu => ?_⟩
                have s6u := Same.trans s6t su
                obtain ⟨_, plU, askU, papU, xsb, hxb, htb⟩ := fx _ s6u
                refine ⟨_, rfl, .list (PV.T.pys (things m)), .list (PV.T.pys (things m)), .lst (SqL.of hxu) htu.dp, .lst (SqL.of hxb) htb.dp, shTh, shTh, _, rfl, ?_⟩
                rw [eqv_list, eqvs_dec, decide_eq_true rfl]
                refine iteF ?_
                refine ⟨_, rfl, _, rfl, _, rfl, ?_⟩
                refine make_keeper T fun Hz kz ez sz hkz hez plz => ?_
                have s6z := Same.trans s6u sz
                obtain ⟨_, _, askZ, papZ, _⟩ := fx _ s6z
                refine ⟨t, x, l, kz, ez, [], ts, key, wo, _, rfl, papZ, pok, plz, .nil, gr.ok, ts13, askZ, hkey, wor, shE, fun Hy sy => ?_⟩
                refine ⟨by show 2 ≤ sizeLine; decide, fun lw hlw => ?_⟩
                have sw := Same.fresh (o := HO.lst [V.str "right", V.str "wrong"]) hlw
                obtain ⟨_, _, _, ⟨xsy, hxy, hty⟩, _⟩ := fx _ (Same.trans (Same.trans s6z sy) sw)
                refine ⟨_, rfl, Nat.zero_le _, fun ey hey => ?_⟩
                have se := Same.fresh (o := HO.lst []) hey
                refine ⟨.list (PV.T.pys ts), .list (PV.T.pys []), .lst (SqL.of (se _ _ hxy)) (hty.keep (Same.tk se)).dp, .lst (SqL.of upd_same) .nil, shTs, by decide +kernel, ?_⟩
                rw [eqv_list, eqvs_dec]
                have sH := (fx _ (Same.trans (Same.trans (Same.trans s6z sy) sw) se)).1
                rw [decide_eq_true hne, if_pos hne]
                refine .inr ⟨_, rfl, lw, _, _, _, rfl, rfl, SqL.of (se _ _ upd_same), atI_nat (j := 0) rfl, rfl, ?_⟩
                rw [decide_eq_true rfl]
                exact kq _ sH
              · rw [decide_eq_false hne]
                have hw1 : acc = ([("refused" : Str), ("refused" : Str)] : List Str) := by
                  match acc, al, hall with
                  | [r1, r2], _, hall => rw [hall hne r1 (by simp), hall hne r2 (by simp)]
                refine iteT ⟨_, rfl, by show 2 ≤ sizeLine; decide, fun ec hec => ?_⟩
                have sc := Same.fresh (o := HO.lst [V.str "refused", V.str "refused"]) hec
                have hacc2 := sc _ _ (sb _ _ hacc)
                rw [hw1] at hacc2
                refine ⟨.list [.str "refused", .str "refused"], .list [.str "refused", .str "refused"], .lst (SqL.of hacc2) (.cons (.str _) (.cons (.str _) .nil)), .lst (SqL.of upd_same) (.cons (.str _) (.cons (.str _) .nil)), by decide +kernel, by decide +kernel, _, rfl, ?_⟩
                rw [show PyData.eqv (.list [.str "refused", .str "refused"]) (.list [.str "refused", .str "refused"]) = true by decide +kernel]
                refine iteF ?_
                have s6t := Same.trans (Same.trans s6w sb) sc
                obtain ⟨_, plT, _, _, _⟩ := fx _ s6t
                obtain ⟨dxt, hkpt, _⟩ := id plT
                refine ⟨_, rfl, kp, dxt, _, rfl, hkpt, lookP_no (by decide +kernel), kp, d, m, rfl, plT, mok, Nat.le_trans mlen (by decide), fun Hu pu xu su hpu hxu htu => ?_⟩
                have s6u := Same.trans s6t su
                obtain ⟨_, plU, askU, papU, xsb, hxb, htb⟩ := fx _ s6u
                refine ⟨_, rfl, .list (PV.T.pys (things m)), .list (PV.T.pys (things m)), .lst (SqL.of hxu) htu.dp, .lst (SqL.of hxb) htb.dp, shTh, shTh, _, rfl, ?_⟩
                rw [eqv_list, eqvs_dec, decide_eq_true rfl]
                refine iteF ?_
                refine ⟨_, rfl, _, rfl, _, rfl, ?_⟩
                refine make_keeper T fun Hz kz ez sz hkz hez plz => ?_
                have s6z := Same.trans s6u sz
                obtain ⟨_, _, askZ, papZ, _⟩ := fx _ s6z
                refine ⟨t, x, l, kz, ez, [], ts, key, wo, _, rfl, papZ, pok, plz, .nil, gr.ok, ts13, askZ, hkey, wor, shE, fun Hy sy => ?_⟩
                refine ⟨by show 2 ≤ sizeLine; decide, fun lw hlw => ?_⟩
                have sw := Same.fresh (o := HO.lst [V.str "right", V.str "wrong"]) hlw
                obtain ⟨_, _, _, ⟨xsy, hxy, hty⟩, _⟩ := fx _ (Same.trans (Same.trans s6z sy) sw)
                refine ⟨_, rfl, Nat.zero_le _, fun ey hey => ?_⟩
                have se := Same.fresh (o := HO.lst []) hey
                refine ⟨.list (PV.T.pys ts), .list (PV.T.pys []), .lst (SqL.of (se _ _ hxy)) (hty.keep (Same.tk se)).dp, .lst (SqL.of upd_same) .nil, shTs, by decide +kernel, ?_⟩
                rw [eqv_list, eqvs_dec]
                have sH := (fx _ (Same.trans (Same.trans (Same.trans s6z sy) sw) se)).1
                rw [decide_eq_false hne, if_neg hne]
                refine .inr ⟨_, rfl, lw, _, _, _, rfl, rfl, SqL.of (se _ _ upd_same), atI_nat (j := 1) rfl, rfl, ?_⟩
                rw [decide_eq_true rfl]
                exact kq _ sH
          · rw [decide_eq_false hL]
            obtain ⟨_, pl13, ask13, pap13, _⟩ := fx _ s613
            refine iteT ⟨_, rfl, kp, d, m, rfl, pl13, mok, mlen, fun H14 ox oe s14 hox hoe plo => ?_⟩
            have s614 := Same.trans s613 s14
            obtain ⟨dxo, ho14, _⟩ := id plo
            have lpos : 0 < L.length := List.length_pos_iff.mpr hL
            have lpos2 : 0 < accN.length := by rw [htaN.len]; exact lpos
            have hD14 := s14 _ _ haccN
            obtain ⟨j1, j2⟩ := mod_place (i := c / 3 / 350) lpos2
            obtain ⟨y, hy⟩ : ∃ y, L[(c / 3 / 350 % (accN.length : Int)).toNat]? = some y := ⟨_, List.getElem?_eq_getElem (by rw [← htaN.len]; exact j1)⟩
            obtain ⟨yv, hyv, hyt⟩ := htaN.getL hy
            obtain ⟨y1, y2, y3⟩ := Lmem y (List.mem_of_getElem? hy)
            refine ⟨_, rfl, ox, dxo, _, rfl, ho14, lookP_no (by decide +kernel), _, rfl, _, rfl, _, _, rfl, rfl, ⟨by decide, by decide⟩, _, rfl, _, accN.length, rfl, .inl ⟨_, SqL.of hD14, rfl⟩, _, _, rfl, rfl, (by show (0 : Int) < (accN.length : Int); omega), D, _, _, yv, rfl, rfl, SqL.of hD14,
              by rw [show atI accN (c / 3 / 350 % (accN.length : Int)) = atI accN (((c / 3 / 350 % (accN.length : Int)).toNat : Nat) : Int) by rw [j2]]; exact atI_nat hyv, yv, y, rfl, hyt.keep (Same.tk s14), fok y y1, fun H15 v' s15 hv' => ?_⟩
            refine ⟨ox, [oe], plainS (layAll [] (things m)), v', y.twin, rfl, ⟨oe, rfl, rfl, rfl, plo.nl (.same s15)⟩, plainS_ok cmok, Nat.le_trans clen (by decide), hv', twin_within y (fok y y1), fun lokT H16 f16 v16 => ?_, fun nlT H16 dd f16 ca => ?_⟩
            · obtain ⟨oe', eoe, _, _, plo16⟩ := v16
              cases eoe
              have hoe14 : (upd H12 ea (HO.lst [])) oe = none := hoe
              have s616 : Same H6 H16 := Same.trans s613 (Same.fit (Same.trans s14 s15) f16 fun b hb => by rw [List.mem_singleton.mp hb]; exact hoe14)
              have shT : Shows t key wo (layAll [] ts) ((plainS (layAll [] (things m))).lays [y.twin]).own "clash" := by
                subst ets
                subst emf
                exact shows_twin mok hin lok y1 y2 y3 fmok lokT
              have tmok : Mok ((plainS (layAll [] (things m))).lays [y.twin]).own := ((plainS_ok cmok).lays (l := [y.twin]) fun z hz => by rw [List.mem_singleton.mp hz]; exact twin_within y (fok y y1)).own
              obtain ⟨_, _, ask16, pap16, _⟩ := fx _ s616
              refine ⟨_, rfl, _, rfl, _, rfl, _, rfl, t, x, l, ox, oe, _, ts, key, wo, _, rfl, pap16, pok, plo16, tmok, gr.ok, ts13, ask16, hkey, wor, shT, fun H17 s17 => ⟨rfl, _, rfl, ?_⟩⟩
              rw [decide_eq_true rfl]
              refine iteF ?_
              have s6f := Same.trans s616 s17
              simp only [L2.start, List.map_cons, List.map_nil, List.length_cons, List.length_nil, List.replicate, List.cons_append, List.nil_append, List.append_nil, List.set_cons_succ, List.set_cons_zero, Nat.reduceAdd, Nat.reduceSub]
              obtain ⟨_, plF, _, papF, _⟩ := fx _ s6f
              refine ⟨_, rfl, ?_⟩
              unfold tCons
              refine make_keeper T fun Hk kx ke sk hkx hke plk => ⟨by show 2 ≤ sizeLine; decide, fun tq htq => ⟨tq, rfl, ⟨_, SqT.of upd_same⟩, fun D2 hD2 => ?_⟩⟩
              have s6q := Same.trans (Same.trans s6f sk) (Same.fresh (o := HO.tup [V.ref kp, V.ref kx]) htq)
              have hkpq := (fx _ s6q).2.1
              have plkq := plk.nl (.same (Same.fresh (o := HO.tup [V.ref kp, V.ref kx]) htq))
              have htqq : (upd Hk tq (HO.tup [V.ref kp, V.ref kx])) tq = some (.tup [V.ref kp, V.ref kx]) := upd_same
              refine lc_tup (K := K) (a := tq) (xs := [V.ref kp, V.ref kx]) (fun i H' => Same (upd Hk tq (HO.tup [V.ref kp, V.ref kx])) H' ∧ ∃ acc : List Str, H' D2 = some (.lst (acc.map V.str)) ∧ acc.length = i ∧ (ts ≠ [] → ∀ r ∈ acc, r = "refused"))
                ⟨Same.fresh hD2, [], upd_same, rfl, fun _ _ h => by (cases h)⟩ (fun i H' _ ⟨q, _⟩ => SqT.of (q _ _ htqq)) ?_ ?_
              · rintro i xv H' hi ⟨sm, acc, hacc, al, hall⟩
                obtain ⟨_, plV, askV, papV, _⟩ := fx H' (Same.trans s6q sm)
                obtain ⟨xsl, hxsl, hthl⟩ := papV
                obtain ⟨vx, vd, mv, exv, plv, mvok, emv⟩ : ∃ vx vd mv, xv = V.ref vx ∧ PlainAt A.cK H' vx vd mv ∧ Mok mv ∧ (mv = m ∨ mv = []) := by
                  match i, hi with
                  | 0, hi => cases hi; exact ⟨kp, d, m, rfl, plV, mok, .inl rfl⟩
                  | 1, hi => cases hi; exact ⟨kx, ke, [], rfl, plkq.nl (.same sm), .nil, .inr rfl⟩
                  | n + 2, hi => simp at hi
                subst exv
                obtain ⟨r, shr, hr2⟩ := shC mv emv
                refine ⟨rfl, ?_⟩
                simp only [tYes, ↓reduceIte]
                refine ⟨_, rfl, _, rfl, _, rfl, _, rfl, _, rfl, l, xsl, rfl, SqL.of hxsl, fun ps hps => ?_⟩
                have sps := Same.fresh (o := HO.lst (cutV xsl none (some (-1)))) hps
                refine ⟨_, rfl, t, x, ps, vx, vd, mv, ts.dropLast, key, wo, r, rfl, ⟨cutV xsl none (some (-1)), upd_same, by have q := hthl.dropLast.keep (Same.tk sps); rw [← cutV_last] at q; exact q⟩, pokC, plv.nl (.same sps), mvok, gr.ok, ts13, askV.same sps, hkey, wor, shr, fun H'' s'' => ?_⟩
                have sall := Same.trans sps s''
                have hacc2 := sall _ _ hacc
                refine ⟨acc.map V.str, hacc2, ?_, Same.own (Same.trans sm sall) hD2, acc ++ [r], ?_, by simp [al], fun hne r' hr' => ?_⟩
                · have hi2 : i < 2 := by
                    have q := (List.getElem?_eq_some_iff.mp hi).1
                    simpa using q
                  rw [List.length_map, al]
                  exact Nat.lt_of_le_of_lt (show i ≤ 10 ^ 6 by omega) big2
                · rw [upd_same, List.map_append]
                  rfl
                · rcases List.mem_append.mp hr' with q | q
                  · exact hall hne r' q
                  · rw [List.mem_singleton.mp q]; exact hr2 hne
              · rintro Hw ⟨smw, acc, hacc, al, hall⟩
                have s6w := Same.trans s6q smw
                obtain ⟨_, plW, askW, papW, befW⟩ := fx Hw s6w
                obtain ⟨xsw, hxw, htw'⟩ := papW
                refine ⟨_, rfl, Nat.zero_le _, fun eb heb => ?_⟩
                have sb := Same.fresh (o := HO.lst []) heb
                refine ⟨.list (PV.T.pys ts), .list (PV.T.pys []), .lst (SqL.of (sb _ _ hxw)) (htw'.keep (Same.tk sb)).dp, .lst (SqL.of upd_same) .nil, shTs, by decide +kernel, _, rfl, ?_⟩
                rw [eqv_list, eqvs_dec]
                by_cases hne : ts = []
                · rw [decide_eq_true hne]
                  refine iteF ?_
                  refine iteF ?_
                  have s6t := Same.trans s6w sb
                  obtain ⟨_, plT, _, _, _⟩ := fx _ s6t
                  obtain ⟨dxt, hkpt, _⟩ := id plT
                  refine ⟨_, rfl, kp, dxt, _, rfl, hkpt, lookP_no (by decide +kernel), kp, d, m, rfl, plT, mok, Nat.le_trans mlen (by decide), fun Hu pu xu su hpu hxu htu => ?_⟩
                  have s6u := Same.trans s6t su
                  obtain ⟨_, plU, askU, papU, xsb, hxb, htb⟩ := fx _ s6u
                  refine ⟨_, rfl, .list (PV.T.pys (things m)), .list (PV.T.pys (things m)), .lst (SqL.of hxu) htu.dp, .lst (SqL.of hxb) htb.dp, shTh, shTh, _, rfl, ?_⟩
                  rw [eqv_list, eqvs_dec, decide_eq_true rfl]
                  refine iteF ?_
                  refine ⟨_, rfl, _, rfl, _, rfl, ?_⟩
                  refine make_keeper T fun Hz kz ez sz hkz hez plz => ?_
                  have s6z := Same.trans s6u sz
                  obtain ⟨_, _, askZ, papZ, _⟩ := fx _ s6z
                  refine ⟨t, x, l, kz, ez, [], ts, key, wo, _, rfl, papZ, pok, plz, .nil, gr.ok, ts13, askZ, hkey, wor, shE, fun Hy sy => ?_⟩
                  refine ⟨by show 2 ≤ sizeLine; decide, fun lw hlw => ?_⟩
                  have sw := Same.fresh (o := HO.lst [V.str "right", V.str "wrong"]) hlw
                  obtain ⟨_, _, _, ⟨xsy, hxy, hty⟩, _⟩ := fx _ (Same.trans (Same.trans s6z sy) sw)
                  refine ⟨_, rfl, Nat.zero_le _, fun ey hey => ?_⟩
                  have se := Same.fresh (o := HO.lst []) hey
                  refine ⟨.list (PV.T.pys ts), .list (PV.T.pys []), .lst (SqL.of (se _ _ hxy)) (hty.keep (Same.tk se)).dp, .lst (SqL.of upd_same) .nil, shTs, by decide +kernel, ?_⟩
                  rw [eqv_list, eqvs_dec]
                  have sH := (fx _ (Same.trans (Same.trans (Same.trans s6z sy) sw) se)).1
                  rw [decide_eq_true hne, if_pos hne]
                  refine .inr ⟨_, rfl, lw, _, _, _, rfl, rfl, SqL.of (se _ _ upd_same), atI_nat (j := 0) rfl, rfl, ?_⟩
                  rw [decide_eq_true rfl]
                  exact kq _ sH
                · rw [decide_eq_false hne]
                  have hw1 : acc = ([("refused" : Str), ("refused" : Str)] : List Str) := by
                    match acc, al, hall with
                    | [r1, r2], _, hall => rw [hall hne r1 (by simp), hall hne r2 (by simp)]
                  refine iteT ⟨_, rfl, by show 2 ≤ sizeLine; decide, fun ec hec => ?_⟩
                  have sc := Same.fresh (o := HO.lst [V.str "refused", V.str "refused"]) hec
                  have hacc2 := sc _ _ (sb _ _ hacc)
                  rw [hw1] at hacc2
                  refine ⟨.list [.str "refused", .str "refused"], .list [.str "refused", .str "refused"], .lst (SqL.of hacc2) (.cons (.str _) (.cons (.str _) .nil)), .lst (SqL.of upd_same) (.cons (.str _) (.cons (.str _) .nil)), by decide +kernel, by decide +kernel, _, rfl, ?_⟩
                  rw [show PyData.eqv (.list [.str "refused", .str "refused"]) (.list [.str "refused", .str "refused"]) = true by decide +kernel]
                  refine iteF ?_
                  have s6t := Same.trans (Same.trans s6w sb) sc
                  obtain ⟨_, plT, _, _, _⟩ := fx _ s6t
                  obtain ⟨dxt, hkpt, _⟩ := id plT
                  refine ⟨_, rfl, kp, dxt, _, rfl, hkpt, lookP_no (by decide +kernel), kp, d, m, rfl, plT, mok, Nat.le_trans mlen (by decide), fun Hu pu xu su hpu hxu htu => ?_⟩
                  have s6u := Same.trans s6t su
                  obtain ⟨_, plU, askU, papU, xsb, hxb, htb⟩ := fx _ s6u
                  refine ⟨_, rfl, .list (PV.T.pys (things m)), .list (PV.T.pys (things m)), .lst (SqL.of hxu) htu.dp, .lst (SqL.of hxb) htb.dp, shTh, shTh, _, rfl, ?_⟩
                  rw [eqv_list, eqvs_dec, decide_eq_true rfl]
                  refine iteF ?_
                  refine ⟨_, rfl, _, rfl, _, rfl, ?_⟩
                  refine make_keeper T fun Hz kz ez sz hkz hez plz => ?_
                  have s6z := Same.trans s6u sz
                  obtain ⟨_, _, askZ, papZ, _⟩ := fx _ s6z
                  refine ⟨t, x, l, kz, ez, [], ts, key, wo, _, rfl, papZ, pok, plz, .nil, gr.ok, ts13, askZ, hkey, wor, shE, fun Hy sy => ?_⟩
                  refine ⟨by show 2 ≤ sizeLine; decide, fun lw hlw => ?_⟩
                  have sw := Same.fresh (o := HO.lst [V.str "right", V.str "wrong"]) hlw
                  obtain ⟨_, _, _, ⟨xsy, hxy, hty⟩, _⟩ := fx _ (Same.trans (Same.trans s6z sy) sw)
                  refine ⟨_, rfl, Nat.zero_le _, fun ey hey => ?_⟩
                  have se := Same.fresh (o := HO.lst []) hey
                  refine ⟨.list (PV.T.pys ts), .list (PV.T.pys []), .lst (SqL.of (se _ _ hxy)) (hty.keep (Same.tk se)).dp, .lst (SqL.of upd_same) .nil, shTs, by decide +kernel, ?_⟩
                  rw [eqv_list, eqvs_dec]
                  have sH := (fx _ (Same.trans (Same.trans (Same.trans s6z sy) sw) se)).1
                  rw [decide_eq_false hne, if_neg hne]
                  refine .inr ⟨_, rfl, lw, _, _, _, rfl, rfl, SqL.of (se _ _ upd_same), atI_nat (j := 1) rfl, rfl, ?_⟩
                  rw [decide_eq_true rfl]
                  exact kq _ sH
            · exact kc H16 dd (Same.trans (fx _ s613).1 (Same.fit (Same.trans s14 s15) f16 fun b hb => by rw [List.mem_singleton.mp hb]; exact hoe)) ca
        · obtain ⟨z, hz, e⟩ := lost
          cases shR with
          | right h lp hm lm =>
            rw [see_plainS, h z hz] at e
            cases e
    · obtain ⟨z, hz, e⟩ := lost
      rw [see_plainS, hinC z hz] at e
      cases e
end
end PV
/-! W9: _law_holds, law. -/
namespace PV
open PySem PySem.Spec L2
section
variable {P : Program} {w : World} {K : PySem.W.Frag} {mg : Str → Option Value} {base : Heap} {A : Ad}
def spLh (K : PySem.W.Frag) (A : Ad) : Sp := fun vs H Q E => ∃ l, ∃ ns : List Int, vs = [.ref l] ∧ SqL K H l (ns.map V.int) ∧ (∀ H', Q (.bl true) H') ∧ (∀ H' dd, ClashAt A H' (.ref A.cCL) (some dd) → E (.ref A.cCL) (some dd) H')
theorem sc_Lh : FnScope ["script", "twin", "keeper", "root", "cell"] ["script"] (defScope (top 67)) := ⟨rfl, rfl, rfl, by decide +kernel, rfl, by decide +kernel, by decide +kernel⟩
theorem ok_Lh (T : Txt K mg A) : Okf P w K mg base (L2.CX P w) 15 A.fLh ["script"] (spLh K A) := by
  obtain ⟨fd, F, b⟩ := T.d_L_holds
  refine ⟨fd, F.okX sc_Lh (fun vs H Q E h => ?_) (fun cdv Ar outer s H vs Q E hr h => ?_), b⟩
  · obtain ⟨l, ns, rfl, _⟩ := h; rfl
  · obtain ⟨l, ns, rfl, hs, kq, kc⟩ := h
    have nd := sc_Lh.nd
    refine ⟨_, pss_cons (ps_set (i := 1) nd rfl (.inl rfl) (pe_op op_mod (pe_callO (ok_Lc T) hr (by rfl) T.g_L_cell_at T.d_L_cell_at.kp no0 (pa_cons (pv 0) (pa_cons pe_int pa_nil))) pe_int))
      (pss_cons (ps_set (i := 2) nd rfl (.inl rfl) (pe_makeO0 T.k_cK (ok_Vi T) hr (by rfl) T.g_Keeper pass0))
      (pss_cons (ps_set (i := 3) nd rfl (.inl rfl) (pe_callO (ok_Lg T) hr (by rfl) T.g_L_grown T.d_L_grown.kp (up (takes_of rfl rfl rfl rfl)) (pa_cons (pv 2) (pa_cons pe_dnewK (pa_cons
        (pe_callO (ok_Lt T) hr (by rfl) T.g_L_turned T.d_L_turned.kp no0 (pa_cons (pe_callO (ok_Lc T) hr (by rfl) T.g_L_cell_at T.d_L_cell_at.kp no0 (pa_cons (pv 0) (pa_cons pe_int pa_nil))) (pa_cons pe_int pa_nil))) (pa_cons (pv 1) pa_nil))))))
      (pss_cons (ps_for (passes_of rfl) rfl (pi_list (pe_slice sl_list (pv 0) (po_some pe_int) (po_some pe_int))) (pg_name (i := 4) nd rfl (.inl rfl))
        (pss_one (ps_if (pt_not (pt_val (pe_callO (ok_L1 T) hr (by rfl) T.g_L_one T.d_L_one.kp (up (takes_of rfl rfl rfl rfl)) (pa_cons (pv 2) (pa_cons (pv 3) (pa_cons (pv 4) (pa_cons (pv 1) pa_nil))))))) pss_never pss_nil)))
      (pss_one (ps_ret pe_bl))))), ?_⟩
    refine ⟨_, rfl, l, ns, 0, rfl, hs, _, _, rfl, rfl, (by show (0 : Int) < 2; decide), ?_⟩
    obtain ⟨tw, etw⟩ : ∃ tw, tw = cellOf ns 0 % 2 := ⟨_, rfl⟩
    have htw : tw = 0 ∨ tw = 1 := by omega
    unfold tSeq tAsg gName
    dsimp only
    refine make_keeper T fun H1 kp d s1 hkp hd pl1 => ?_
    refine ⟨_, rfl, fun pd hpd => ?_⟩
    have s2 := Same.fresh (o := HO.dK []) hpd
    have s02 := Same.trans s1 s2
    refine ⟨_, rfl, l, ns, 1, rfl, hs.ext s02, _, rfl, fun H3 lt ts s3 hlt hts hL => ?_⟩
    obtain ⟨_, _, kvs, hdd, _⟩ := id pl1
    have npd : pd ≠ d := fun z => by rw [z, hdd] at hpd; cases hpd
    have s03 := Same.trans s02 s3
    have free : ∀ b ∈ [d, pd], H b = none := fun b hb => by
      rcases List.mem_cons.mp hb with e | hb
      · rw [e]; exact hd
      · rw [List.mem_singleton.mp hb]; exact s1.free hpd
    refine ⟨_, rfl, kp, d, pd, lt, _, ts, rfl, pl1.nl (.same (Same.trans s2 s3)), s3 _ _ upd_same, npd, hL, hts, by omega, fun H4 t m f4 pl4 gr => ?_, fun H4 dd f4 ca => kc H4 dd ca⟩
    have s04 := Same.fit s03 f4 free
    refine ⟨_, rfl, _, rfl, _, rfl, l, _, rfl, hs.ext s04, fun p hp => ?_⟩
    refine ⟨p, rfl, ⟨_, SqL.of upd_same⟩, for_list (K := K) (g := gName 4) (tb := tIfS (tNot (tB (tCallS (spL1 A) (fun _ => E) (tCons (tVar 2) (tCons (tVar 3) (tCons (tVar 4) (tCons (tVar 1) tNil))))))) tNever tNext) (D := { nx := tRet (tC (V.bl true)) { nx := fun _ H' => Q V.non H', rt := Q }, rt := Q }) (a := p) (xs := cutV (ns.map V.int) (some 2) (some 32)) (fun i σ H' => ∃ n4, σ = [some (.ref l), some (.int (cellOf ns 0 % 2)), some (.ref kp), some (.int (Tr.root t)), n4] ∧ Same (upd H4 p (.lst (cutV (ns.map V.int) (some 2) (some 32)))) H')
      ⟨none, rfl, Same.refl _⟩ (fun i σ H' _ ⟨_, _, q⟩ => SqL.of (q _ _ upd_same)) ?_ ?_⟩
    · rintro i x σ H' hi ⟨n4, rfl, sm⟩
      have hx : x ∈ ns.map V.int := by
        have q := List.mem_of_getElem? hi
        unfold cutV at q
        exact List.mem_of_mem_drop (List.mem_of_mem_take q)
      obtain ⟨c, _, rfl⟩ := List.mem_map.mp hx
      refine ⟨_, rfl, _, rfl, _, rfl, _, rfl, kp, d, m, t, c, _, rfl, pl4.nl (.same (Same.trans (Same.fresh hp) sm)), gr, by omega, fun H'' s'' => ⟨_, rfl, iteF ⟨_, rfl, Same.trans sm s''⟩⟩, fun H'' dd s'' ca => kc H'' dd ca⟩
    · rintro σ H' ⟨n4, rfl, sm⟩
      exact kq H'
/-! ### law -/
def spLaw (K : PySem.W.Frag) : Sp := fun vs H Q _ => ∃ (a : Addr) (ns : List Int), vs = [.ref a] ∧ SqL K H a (ns.map V.int) ∧ ns.length ≤ 63 ∧ ∀ H', Q (.bl true) H'
theorem sc_law : FnScope ["script", "told", "clash", "e"] ["script"] (defScope (top 68)) := ⟨rfl, rfl, rfl, by decide +kernel, rfl, by decide +kernel, by decide +kernel⟩
theorem law_fn (T : Txt K mg A) {fd : FuncData} (F : Fun K "law" "law" (top 68) A.fLaw fd) : FnOk P w K mg base CX0 16 A.fLaw fd ["script"] (spLaw K) := by
  refine F.ok sc_law (fun vs H Q E h => ?_) (fun cdv Ar outer s H vs Q E hr h => ?_)
  · obtain ⟨a, ns, rfl, _⟩ := h; rfl
  · obtain ⟨l, ns, rfl, hs, _, k⟩ := h
    have nd := sc_law.nd
    refine ⟨_, pss_cons (ps_set (i := 1) nd rfl (.inl rfl) pe_bl)
      (pss_cons (ps_set (i := 2) nd rfl (.inl rfl) pe_non)
      (pss_cons (ps_try_as (i := 3) rfl rfl nd rfl rfl ⟨by rfl, by decide, .inl T.g_Clash⟩ takes0 (fun W pn xe tk _ => pss_one (ps_set (i := 1) nd rfl (.inl rfl) (pe_callO (ok_Lh T) hr (by rfl) T.g_L_holds T.d_L_holds.kp (fun σ => passAt tk σ) (pa_cons (pv 0) pa_nil))))
        (fun a oe cls d pn hz hf => pss_one (ps_set (i := 2) nd rfl (.inl rfl) (pe_tup (pa_cons (pe_xf T.xf T.cl_one hz hf (pv 3)) (pa_cons (pe_xf T.xf T.cl_other hz hf (pv 3)) pa_nil))))))
      (pss_cons (ps_if (pt_cmp (pc_notN (pv 2))) (pss_one (ps_ret (pe_and (pe_cmpR (op_neD hr.units) (pe_ix ix_tup (pv 2) pe_int (fun _ _ => rfl)) (pe_ix ix_tup (pv 2) pe_int (fun _ _ => rfl)) (nomark _))
          (pe_one (pe_cmpR op_eq (pe_callO (ok_seal T) hr (by rfl) T.g_seal T.d_seal.kp no0 (pa_cons (pe_ix ix_tup (pv 2) pe_int (fun _ _ => rfl)) pa_nil)) (pe_callO (ok_seal T) hr (by rfl) T.g_seal T.d_seal.kp no0 (pa_cons (pe_ix ix_tup (pv 2) pe_int (fun _ _ => rfl)) pa_nil)) (nomark _)))))) pss_nil)
      (pss_one (ps_ret (pv 1)))))), ?_⟩
    refine ⟨_, rfl, l, ns, rfl, hs, fun H1 => ?_, fun H1 dd ca => ?_⟩
    · refine ⟨_, rfl, _, rfl, ?_⟩
      rw [decide_eq_true rfl]
      exact iteF ⟨_, rfl, k H1⟩
    · obtain ⟨ec, dd', fs, v1, v2, t1, t2, ed, hfs, l1, l2, h1, h2, o1, o2, ne, es⟩ := ca
      refine ⟨true, T.e_cl1, fun _ a ha => ?_, fun q => nomatch q⟩

      refine ⟨_, rfl, rfl, rfl, dd', fs, v1, ed, hfs, l1, _, rfl, rfl, rfl, dd', fs, v2, ed, hfs, l2, by show 2 ≤ sizeLine; decide, fun q hq => ?_⟩
      have s1 := Same.fresh (o := HO.tup [v1, v2]) hq
      have hq1 : (upd H1 q (HO.tup [v1, v2])) q = some (.tup [v1, v2]) := upd_same
      have h1' := h1.keep (Same.tk s1)
      have h2' := h2.keep (Same.tk s1)
      refine ⟨_, rfl, _, rfl, ?_⟩
      rw [decide_eq_false (by intro z; cases z)]
      refine iteT ?_
      refine ⟨_, rfl, q, _, _, _, rfl, rfl, SqT.of hq1, atI_nat (j := 0) rfl, _, rfl, q, _, _, _, rfl, rfl, SqT.of hq1, atI_nat (j := 1) rfl, t1.py, t2.py, h1'.dp, h2'.dp, shaped_of (n := 2) o1 (by decide), shaped_of (n := 2) o2 (by decide), _, rfl, ?_⟩
      rw [eqv_dec, decide_eq_false ne]
      refine iteT ⟨_, rfl, q, _, _, _, rfl, rfl, SqT.of hq1, atI_nat (j := 0) rfl, v1, t1, rfl, h1', o1, fun H2 s2 => ?_⟩
      refine ⟨_, rfl, q, _, _, _, rfl, rfl, SqT.of (s2 _ _ hq1), atI_nat (j := 1) rfl, v2, t2, rfl, h2'.keep (Same.tk s2), o2, fun H3 s3 => ⟨rfl, ?_⟩⟩
      rw [es, decide_eq_true rfl]
      exact k H3
end
end PV
namespace PV
open PySem PySem.Spec L2
theorem exm_of {K : PySem.W.Frag} {S : Addr} {c : Value} {b : Bool} (h1 : PySem.W.subIn K (.ref S) (.type "BaseException") = some true) (h2 : PySem.W.isClsIn K S = true) (h3 : PySem.W.typeIn K (.ref S) = some (.type "type")) (h4 : PySem.W.subIn K c (.ref S) = some b) : PySem.W.exmOne K c (.ref S) = some b := by
  have e1 : (PySem.W.subIn K (.ref S) (.type "BaseException") == some true) = true := by rw [h1] <;> rfl
  have e2 : ((PySem.W.clsIn K S).isSome && PySem.W.typeIn K (.ref S) == some (.type "type")) = true := by
    rw [show (PySem.W.clsIn K S).isSome = true from h2, h3] <;> rfl
  unfold PySem.W.exmOne
  rw [if_pos e1]
  show (if ((PySem.W.clsIn K S).isSome && PySem.W.typeIn K (.ref S) == some (.type "type")) = true then PySem.W.subIn K c (.ref S) else none) = some b
  rw [if_pos e2]
  exact h4
theorem exm_cons {K : PySem.W.Frag} {cls c : Value} {r : List Value} {b d : Bool} (h1 : PySem.W.exmOne K cls c = some b) (h2 : PySem.W.exmAny K cls r = some d) : PySem.W.exmAny K cls (c :: r) = some (b || d) := by
  unfold PySem.W.exmAny
  rw [h1, h2]
theorem all_mk {R : Prop} {K : PySem.W.Frag} {h : Heap} {mg : Str → Option Value} {fa : Addr} (X : K.In h) (G : h.Ns mainGlobals mg) (hfa : mg "law" = some (.ref fa))
    {cVE cNP cBT cCL cV cK cR cW cPut fTC fCO fSE fIN fIT fIW fITh fKO fSO fAH fAP fCH fCO2 fSH fWH fND fNA fNB fRK fAB fPA fJO fRE fPU fCU fLc fLt fLk fLw fLg fLn fLy fL1 fLh fLaw fCLi fVi fVl fVt fVh fKt fRi fRl fRt fRp fWi fPi fPa : Addr}
    {t_MOST_SEAL t_BASE t_BEGIN t_HALF t_LEAST t_MOST_NUMBER t_MOST_SIGNS t_MOST_THINGS t_DEEPEST t_MOST_NODES t_UNBOUND : Tok}
    {oc_text_codes kV_text_codes dc_text_codes pm_text_codes cd_text_codes ct_text_codes : Value} {od_text_codes an_text_codes : Option Addr} {sl_text_codes : Array (Option Value)}
    {oc_codes_of kV_codes_of dc_codes_of pm_codes_of cd_codes_of ct_codes_of : Value} {od_codes_of an_codes_of : Option Addr} {sl_codes_of : Array (Option Value)}
    {oc_seal kV_seal dc_seal pm_seal cd_seal ct_seal : Value} {od_seal an_seal : Option Addr} {sl_seal : Array (Option Value)}
    {oc_is_number kV_is_number dc_is_number pm_is_number cd_is_number ct_is_number : Value} {od_is_number an_is_number : Option Addr} {sl_is_number : Array (Option Value)}
    {oc_is_text kV_is_text dc_is_text pm_is_text cd_is_text ct_is_text : Value} {od_is_text an_is_text : Option Addr} {sl_is_text : Array (Option Value)}
    {oc_is_within kV_is_within dc_is_within pm_is_within cd_is_within ct_is_within : Value} {od_is_within an_is_within : Option Addr} {sl_is_within : Array (Option Value)}
    {oc_is_thing kV_is_thing dc_is_thing pm_is_thing cd_is_thing ct_is_thing : Value} {od_is_thing an_is_thing : Option Addr} {sl_is_thing : Array (Option Value)}
    {oc_kind_of kV_kind_of dc_kind_of pm_kind_of cd_kind_of ct_kind_of : Value} {od_kind_of an_kind_of : Option Addr} {sl_kind_of : Array (Option Value)}
    {oc_side_of kV_side_of dc_side_of pm_side_of cd_side_of ct_side_of : Value} {od_side_of an_side_of : Option Addr} {sl_side_of : Array (Option Value)}
    {oc_ahead kV_ahead dc_ahead pm_ahead cd_ahead ct_ahead : Value} {od_ahead an_ahead : Option Addr} {sl_ahead : Array (Option Value)}
    {oc_answer_with_paper kV_answer_with_paper dc_answer_with_paper pm_answer_with_paper cd_answer_with_paper ct_answer_with_paper : Value} {od_answer_with_paper an_answer_with_paper : Option Addr} {sl_answer_with_paper : Array (Option Value)}
    {oc_checked kV_checked dc_checked pm_checked cd_checked ct_checked : Value} {od_checked an_checked : Option Addr} {sl_checked : Array (Option Value)}
    {oc_clash_of kV_clash_of dc_clash_of pm_clash_of cd_clash_of ct_clash_of : Value} {od_clash_of an_clash_of : Option Addr} {sl_clash_of : Array (Option Value)}
    {oc_shown kV_shown dc_shown pm_shown cd_shown ct_shown : Value} {od_shown an_shown : Option Addr} {sl_shown : Array (Option Value)}
    {oc_is_whole kV_is_whole dc_is_whole pm_is_whole cd_is_whole ct_is_whole : Value} {od_is_whole an_is_whole : Option Addr} {sl_is_whole : Array (Option Value)}
    {oc_is_node kV_is_node dc_is_node pm_is_node cd_is_node ct_is_node : Value} {od_is_node an_is_node : Option Addr} {sl_is_node : Array (Option Value)}
    {oc_node_at kV_node_at dc_node_at pm_node_at cd_node_at ct_node_at : Value} {od_node_at an_node_at : Option Addr} {sl_node_at : Array (Option Value)}
    {oc_node_beneath kV_node_beneath dc_node_beneath pm_node_beneath cd_node_beneath ct_node_beneath : Value} {od_node_beneath an_node_beneath : Option Addr} {sl_node_beneath : Array (Option Value)}
    {oc_rank kV_rank dc_rank pm_rank cd_rank ct_rank : Value} {od_rank an_rank : Option Addr} {sl_rank : Array (Option Value)}
    {oc_above kV_above dc_above pm_above cd_above ct_above : Value} {od_above an_above : Option Addr} {sl_above : Array (Option Value)}
    {oc_part kV_part dc_part pm_part cd_part ct_part : Value} {od_part an_part : Option Addr} {sl_part : Array (Option Value)}
    {oc_joined kV_joined dc_joined pm_joined cd_joined ct_joined : Value} {od_joined an_joined : Option Addr} {sl_joined : Array (Option Value)}
    {oc_rebuilt kV_rebuilt dc_rebuilt pm_rebuilt cd_rebuilt ct_rebuilt : Value} {od_rebuilt an_rebuilt : Option Addr} {sl_rebuilt : Array (Option Value)}
    {oc_put kV_put dc_put pm_put cd_put ct_put : Value} {od_put an_put : Option Addr} {sl_put : Array (Option Value)}
    {oc_cut kV_cut dc_cut pm_cut cd_cut ct_cut : Value} {od_cut an_cut : Option Addr} {sl_cut : Array (Option Value)}
    {oc_L_cell_at kV_L_cell_at dc_L_cell_at pm_L_cell_at cd_L_cell_at ct_L_cell_at : Value} {od_L_cell_at an_L_cell_at : Option Addr} {sl_L_cell_at : Array (Option Value)}
    {oc_L_turned kV_L_turned dc_L_turned pm_L_turned cd_L_turned ct_L_turned : Value} {od_L_turned an_L_turned : Option Addr} {sl_L_turned : Array (Option Value)}
    {oc_L_key kV_L_key dc_L_key pm_L_key cd_L_key ct_L_key : Value} {od_L_key an_L_key : Option Addr} {sl_L_key : Array (Option Value)}
    {oc_L_worth kV_L_worth dc_L_worth pm_L_worth cd_L_worth ct_L_worth : Value} {od_L_worth an_L_worth : Option Addr} {sl_L_worth : Array (Option Value)}
    {oc_L_grown kV_L_grown dc_L_grown pm_L_grown cd_L_grown ct_L_grown : Value} {od_L_grown an_L_grown : Option Addr} {sl_L_grown : Array (Option Value)}
    {oc_L_twinned kV_L_twinned dc_L_twinned pm_L_twinned cd_L_twinned ct_L_twinned : Value} {od_L_twinned an_L_twinned : Option Addr} {sl_L_twinned : Array (Option Value)}
    {oc_L_copy kV_L_copy dc_L_copy pm_L_copy cd_L_copy ct_L_copy : Value} {od_L_copy an_L_copy : Option Addr} {sl_L_copy : Array (Option Value)}
    {oc_L_one kV_L_one dc_L_one pm_L_one cd_L_one ct_L_one : Value} {od_L_one an_L_one : Option Addr} {sl_L_one : Array (Option Value)}
    {oc_L_holds kV_L_holds dc_L_holds pm_L_holds cd_L_holds ct_L_holds : Value} {od_L_holds an_L_holds : Option Addr} {sl_L_holds : Array (Option Value)}
    {oc_law kV_law dc_law pm_law cd_law ct_law : Value} {od_law an_law : Option Addr} {sl_law : Array (Option Value)}
    {oc_Clash_init kV_Clash_init dc_Clash_init pm_Clash_init cd_Clash_init ct_Clash_init : Value} {od_Clash_init an_Clash_init : Option Addr} {sl_Clash_init : Array (Option Value)}
    {oc_Vault_init kV_Vault_init dc_Vault_init pm_Vault_init cd_Vault_init ct_Vault_init : Value} {od_Vault_init an_Vault_init : Option Addr} {sl_Vault_init : Array (Option Value)}
    {oc_Vault_lay kV_Vault_lay dc_Vault_lay pm_Vault_lay cd_Vault_lay ct_Vault_lay : Value} {od_Vault_lay an_Vault_lay : Option Addr} {sl_Vault_lay : Array (Option Value)}
    {oc_Vault_thing kV_Vault_thing dc_Vault_thing pm_Vault_thing cd_Vault_thing ct_Vault_thing : Value} {od_Vault_thing an_Vault_thing : Option Addr} {sl_Vault_thing : Array (Option Value)}
    {oc_Vault_has kV_Vault_has dc_Vault_has pm_Vault_has cd_Vault_has ct_Vault_has : Value} {od_Vault_has an_Vault_has : Option Addr} {sl_Vault_has : Array (Option Value)}
    {oc_Keeper_things kV_Keeper_things dc_Keeper_things pm_Keeper_things cd_Keeper_things ct_Keeper_things : Value} {od_Keeper_things an_Keeper_things : Option Addr} {sl_Keeper_things : Array (Option Value)}
    {oc_Reader_init kV_Reader_init dc_Reader_init pm_Reader_init cd_Reader_init ct_Reader_init : Value} {od_Reader_init an_Reader_init : Option Addr} {sl_Reader_init : Array (Option Value)}
    {oc_Reader_lay kV_Reader_lay dc_Reader_lay pm_Reader_lay cd_Reader_lay ct_Reader_lay : Value} {od_Reader_lay an_Reader_lay : Option Addr} {sl_Reader_lay : Array (Option Value)}
    {oc_Reader_thing kV_Reader_thing dc_Reader_thing pm_Reader_thing cd_Reader_thing ct_Reader_thing : Value} {od_Reader_thing an_Reader_thing : Option Addr} {sl_Reader_thing : Array (Option Value)}
    {oc_Reader_paper kV_Reader_paper dc_Reader_paper pm_Reader_paper cd_Reader_paper ct_Reader_paper : Value} {od_Reader_paper an_Reader_paper : Option Addr} {sl_Reader_paper : Array (Option Value)}
    {oc_Witness_init kV_Witness_init dc_Witness_init pm_Witness_init cd_Witness_init ct_Witness_init : Value} {od_Witness_init an_Witness_init : Option Addr} {sl_Witness_init : Array (Option Value)}
    {oc_Put_init kV_Put_init dc_Put_init pm_Put_init cd_Put_init ct_Put_init : Value} {od_Put_init an_Put_init : Option Addr} {sl_Put_init : Array (Option Value)}
    {oc_Put_answer kV_Put_answer dc_Put_answer pm_Put_answer cd_Put_answer ct_Put_answer : Value} {od_Put_answer an_Put_answer : Option Addr} {sl_Put_answer : Array (Option Value)}
    {nm_cl qn_cl : Str} {N_cl : Addr} {bs_cl bm_cl : List Value} {sn_cl : List Str} {sub_cl : List Value} {ab_cl : Bool} {col_cl : Option Bool} {dd_cl : Option Addr} {m0_cl m1_cl m2_cl m3_cl m5_cl : Option Value}
    (z_range : PySem.W.nsIn K mainGlobals "range" = some none)
    (z_len : PySem.W.nsIn K mainGlobals "len" = some none)
    (z_ord : PySem.W.nsIn K mainGlobals "ord" = some none)
    (z_isinstance : PySem.W.nsIn K mainGlobals "isinstance" = some none)
    (z_int : PySem.W.nsIn K mainGlobals "int" = some none)
    (z_str : PySem.W.nsIn K mainGlobals "str" = some none)
    (z_bool : PySem.W.nsIn K mainGlobals "bool" = some none)
    (z_tuple : PySem.W.nsIn K mainGlobals "tuple" = some none)
    (z_zip : PySem.W.nsIn K mainGlobals "zip" = some none)
    (z_reversed : PySem.W.nsIn K mainGlobals "reversed" = some none)
    (z_sorted : PySem.W.nsIn K mainGlobals "sorted" = some none)
    (z_list : PySem.W.nsIn K mainGlobals "list" = some none)
    (c_MOST_SEAL : PySem.W.nsIn K mainGlobals "MOST_SEAL" = some (some (.int 2305843009213693951 t_MOST_SEAL)))
    (c_BASE : PySem.W.nsIn K mainGlobals "BASE" = some (some (.int 1234567890123456789 t_BASE)))
    (c_BEGIN : PySem.W.nsIn K mainGlobals "BEGIN" = some (some (.int 7 t_BEGIN)))
    (c_HALF : PySem.W.nsIn K mainGlobals "HALF" = some (some (.int 1000000000000000 t_HALF)))
    (c_LEAST : PySem.W.nsIn K mainGlobals "LEAST" = some (some (.int 1000000000000000000000000000000 t_LEAST)))
    (c_MOST_NUMBER : PySem.W.nsIn K mainGlobals "MOST_NUMBER" = some (some (.int 1000000000000000000000000000000 t_MOST_NUMBER)))
    (c_MOST_SIGNS : PySem.W.nsIn K mainGlobals "MOST_SIGNS" = some (some (.int 60 t_MOST_SIGNS)))
    (c_MOST_THINGS : PySem.W.nsIn K mainGlobals "MOST_THINGS" = some (some (.int 40 t_MOST_THINGS)))
    (c_DEEPEST : PySem.W.nsIn K mainGlobals "DEEPEST" = some (some (.int 5 t_DEEPEST)))
    (c_MOST_NODES : PySem.W.nsIn K mainGlobals "MOST_NODES" = some (some (.int 300 t_MOST_NODES)))
    (c_UNBOUND : PySem.W.nsIn K mainGlobals "UNBOUND" = some (some (.int 301 t_UNBOUND)))
    (a_text_codes : PySem.W.nsIn K mainGlobals "text_codes" = some (some (.ref fTC)))
    (a_codes_of : PySem.W.nsIn K mainGlobals "codes_of" = some (some (.ref fCO)))
    (a_seal : PySem.W.nsIn K mainGlobals "seal" = some (some (.ref fSE)))
    (a_is_number : PySem.W.nsIn K mainGlobals "is_number" = some (some (.ref fIN)))
    (a_is_text : PySem.W.nsIn K mainGlobals "is_text" = some (some (.ref fIT)))
    (a_is_within : PySem.W.nsIn K mainGlobals "is_within" = some (some (.ref fIW)))
    (a_is_thing : PySem.W.nsIn K mainGlobals "is_thing" = some (some (.ref fITh)))
    (a_kind_of : PySem.W.nsIn K mainGlobals "kind_of" = some (some (.ref fKO)))
    (a_side_of : PySem.W.nsIn K mainGlobals "side_of" = some (some (.ref fSO)))
    (a_ahead : PySem.W.nsIn K mainGlobals "ahead" = some (some (.ref fAH)))
    (a_answer_with_paper : PySem.W.nsIn K mainGlobals "answer_with_paper" = some (some (.ref fAP)))
    (a_checked : PySem.W.nsIn K mainGlobals "checked" = some (some (.ref fCH)))
    (a_clash_of : PySem.W.nsIn K mainGlobals "clash_of" = some (some (.ref fCO2)))
    (a_shown : PySem.W.nsIn K mainGlobals "shown" = some (some (.ref fSH)))
    (a_is_whole : PySem.W.nsIn K mainGlobals "is_whole" = some (some (.ref fWH)))
    (a_is_node : PySem.W.nsIn K mainGlobals "is_node" = some (some (.ref fND)))
    (a_node_at : PySem.W.nsIn K mainGlobals "node_at" = some (some (.ref fNA)))
    (a_node_beneath : PySem.W.nsIn K mainGlobals "node_beneath" = some (some (.ref fNB)))
    (a_rank : PySem.W.nsIn K mainGlobals "rank" = some (some (.ref fRK)))
    (a_above : PySem.W.nsIn K mainGlobals "above" = some (some (.ref fAB)))
    (a_part : PySem.W.nsIn K mainGlobals "part" = some (some (.ref fPA)))
    (a_joined : PySem.W.nsIn K mainGlobals "joined" = some (some (.ref fJO)))
    (a_rebuilt : PySem.W.nsIn K mainGlobals "rebuilt" = some (some (.ref fRE)))
    (a_put : PySem.W.nsIn K mainGlobals "put" = some (some (.ref fPU)))
    (a_cut : PySem.W.nsIn K mainGlobals "cut" = some (some (.ref fCU)))
    (a_L_cell_at : PySem.W.nsIn K mainGlobals "_law_cell_at" = some (some (.ref fLc)))
    (a_L_turned : PySem.W.nsIn K mainGlobals "_law_turned" = some (some (.ref fLt)))
    (a_L_key : PySem.W.nsIn K mainGlobals "_law_key" = some (some (.ref fLk)))
    (a_L_worth : PySem.W.nsIn K mainGlobals "_law_worth" = some (some (.ref fLw)))
    (a_L_grown : PySem.W.nsIn K mainGlobals "_law_grown" = some (some (.ref fLg)))
    (a_L_twinned : PySem.W.nsIn K mainGlobals "_law_twinned" = some (some (.ref fLn)))
    (a_L_copy : PySem.W.nsIn K mainGlobals "_law_copy" = some (some (.ref fLy)))
    (a_L_one : PySem.W.nsIn K mainGlobals "_law_one" = some (some (.ref fL1)))
    (a_L_holds : PySem.W.nsIn K mainGlobals "_law_holds" = some (some (.ref fLh)))
    (a_law : PySem.W.nsIn K mainGlobals "law" = some (some (.ref fLaw)))
    (a_VaultError : PySem.W.nsIn K mainGlobals "VaultError" = some (some (.ref cVE)))
    (a_NoPaper : PySem.W.nsIn K mainGlobals "NoPaper" = some (some (.ref cNP)))
    (a_BadThing : PySem.W.nsIn K mainGlobals "BadThing" = some (some (.ref cBT)))
    (a_Clash : PySem.W.nsIn K mainGlobals "Clash" = some (some (.ref cCL)))
    (a_Vault : PySem.W.nsIn K mainGlobals "Vault" = some (some (.ref cV)))
    (a_Keeper : PySem.W.nsIn K mainGlobals "Keeper" = some (some (.ref cK)))
    (a_Reader : PySem.W.nsIn K mainGlobals "Reader" = some (some (.ref cR)))
    (a_Witness : PySem.W.nsIn K mainGlobals "Witness" = some (some (.ref cW)))
    (a_Put : PySem.W.nsIn K mainGlobals "Put" = some (some (.ref cPut)))
    (a_Clash_init : PySem.W.findIn K (.ref cCL) "__init__" = some (some (.ref fCLi)))
    (a_Vault_init : PySem.W.findIn K (.ref cV) "__init__" = some (some (.ref fVi)))
    (a_Vault_lay : PySem.W.findIn K (.ref cV) "lay" = some (some (.ref fVl)))
    (a_Vault_thing : PySem.W.findIn K (.ref cV) "thing" = some (some (.ref fVt)))
    (a_Vault_has : PySem.W.findIn K (.ref cV) "has" = some (some (.ref fVh)))
    (a_Keeper_things : PySem.W.findIn K (.ref cK) "things" = some (some (.ref fKt)))
    (a_Reader_init : PySem.W.findIn K (.ref cR) "__init__" = some (some (.ref fRi)))
    (a_Reader_lay : PySem.W.findIn K (.ref cR) "lay" = some (some (.ref fRl)))
    (a_Reader_thing : PySem.W.findIn K (.ref cR) "thing" = some (some (.ref fRt)))
    (a_Reader_paper : PySem.W.findIn K (.ref cR) "paper" = some (some (.ref fRp)))
    (a_Witness_init : PySem.W.findIn K (.ref cW) "__init__" = some (some (.ref fWi)))
    (a_Put_init : PySem.W.findIn K (.ref cPut) "__init__" = some (some (.ref fPi)))
    (a_Put_answer : PySem.W.findIn K (.ref cPut) "answer" = some (some (.ref fPa)))
    (l_text_codes : K.lookup fTC = some ⟨oc_text_codes, od_text_codes, .func (PySem.W.fnOf "text_codes" "text_codes" (defArgs (top 11)) (defBody (top 11)) (defScope (top 11)) .none kV_text_codes dc_text_codes pm_text_codes an_text_codes cd_text_codes ct_text_codes), sl_text_codes⟩)
    (e_text_codes : PySem.W.codeIn K cd_text_codes "text_codes" = true)
    (k_text_codes : PySem.W.keepIn K (.ref fTC) = true)
    (l_codes_of : K.lookup fCO = some ⟨oc_codes_of, od_codes_of, .func (PySem.W.fnOf "codes_of" "codes_of" (defArgs (top 12)) (defBody (top 12)) (defScope (top 12)) .none kV_codes_of dc_codes_of pm_codes_of an_codes_of cd_codes_of ct_codes_of), sl_codes_of⟩)
    (e_codes_of : PySem.W.codeIn K cd_codes_of "codes_of" = true)
    (k_codes_of : PySem.W.keepIn K (.ref fCO) = true)
    (l_seal : K.lookup fSE = some ⟨oc_seal, od_seal, .func (PySem.W.fnOf "seal" "seal" (defArgs (top 13)) (defBody (top 13)) (defScope (top 13)) .none kV_seal dc_seal pm_seal an_seal cd_seal ct_seal), sl_seal⟩)
    (e_seal : PySem.W.codeIn K cd_seal "seal" = true)
    (k_seal : PySem.W.keepIn K (.ref fSE) = true)
    (l_is_number : K.lookup fIN = some ⟨oc_is_number, od_is_number, .func (PySem.W.fnOf "is_number" "is_number" (defArgs (top 19)) (defBody (top 19)) (defScope (top 19)) .none kV_is_number dc_is_number pm_is_number an_is_number cd_is_number ct_is_number), sl_is_number⟩)
    (e_is_number : PySem.W.codeIn K cd_is_number "is_number" = true)
    (k_is_number : PySem.W.keepIn K (.ref fIN) = true)
    (l_is_text : K.lookup fIT = some ⟨oc_is_text, od_is_text, .func (PySem.W.fnOf "is_text" "is_text" (defArgs (top 20)) (defBody (top 20)) (defScope (top 20)) .none kV_is_text dc_is_text pm_is_text an_is_text cd_is_text ct_is_text), sl_is_text⟩)
    (e_is_text : PySem.W.codeIn K cd_is_text "is_text" = true)
    (k_is_text : PySem.W.keepIn K (.ref fIT) = true)
    (l_is_within : K.lookup fIW = some ⟨oc_is_within, od_is_within, .func (PySem.W.fnOf "is_within" "is_within" (defArgs (top 21)) (defBody (top 21)) (defScope (top 21)) .none kV_is_within dc_is_within pm_is_within an_is_within cd_is_within ct_is_within), sl_is_within⟩)
    (e_is_within : PySem.W.codeIn K cd_is_within "is_within" = true)
    (k_is_within : PySem.W.keepIn K (.ref fIW) = true)
    (l_is_thing : K.lookup fITh = some ⟨oc_is_thing, od_is_thing, .func (PySem.W.fnOf "is_thing" "is_thing" (defArgs (top 22)) (defBody (top 22)) (defScope (top 22)) .none kV_is_thing dc_is_thing pm_is_thing an_is_thing cd_is_thing ct_is_thing), sl_is_thing⟩)
    (e_is_thing : PySem.W.codeIn K cd_is_thing "is_thing" = true)
    (k_is_thing : PySem.W.keepIn K (.ref fITh) = true)
    (l_kind_of : K.lookup fKO = some ⟨oc_kind_of, od_kind_of, .func (PySem.W.fnOf "kind_of" "kind_of" (defArgs (top 23)) (defBody (top 23)) (defScope (top 23)) .none kV_kind_of dc_kind_of pm_kind_of an_kind_of cd_kind_of ct_kind_of), sl_kind_of⟩)
    (e_kind_of : PySem.W.codeIn K cd_kind_of "kind_of" = true)
    (k_kind_of : PySem.W.keepIn K (.ref fKO) = true)
    (l_side_of : K.lookup fSO = some ⟨oc_side_of, od_side_of, .func (PySem.W.fnOf "side_of" "side_of" (defArgs (top 24)) (defBody (top 24)) (defScope (top 24)) .none kV_side_of dc_side_of pm_side_of an_side_of cd_side_of ct_side_of), sl_side_of⟩)
    (e_side_of : PySem.W.codeIn K cd_side_of "side_of" = true)
    (k_side_of : PySem.W.keepIn K (.ref fSO) = true)
    (l_ahead : K.lookup fAH = some ⟨oc_ahead, od_ahead, .func (PySem.W.fnOf "ahead" "ahead" (defArgs (top 25)) (defBody (top 25)) (defScope (top 25)) .none kV_ahead dc_ahead pm_ahead an_ahead cd_ahead ct_ahead), sl_ahead⟩)
    (e_ahead : PySem.W.codeIn K cd_ahead "ahead" = true)
    (k_ahead : PySem.W.keepIn K (.ref fAH) = true)
    (l_answer_with_paper : K.lookup fAP = some ⟨oc_answer_with_paper, od_answer_with_paper, .func (PySem.W.fnOf "answer_with_paper" "answer_with_paper" (defArgs (top 32)) (defBody (top 32)) (defScope (top 32)) .none kV_answer_with_paper dc_answer_with_paper pm_answer_with_paper an_answer_with_paper cd_answer_with_paper ct_answer_with_paper), sl_answer_with_paper⟩)
    (e_answer_with_paper : PySem.W.codeIn K cd_answer_with_paper "answer_with_paper" = true)
    (k_answer_with_paper : PySem.W.keepIn K (.ref fAP) = true)
    (l_checked : K.lookup fCH = some ⟨oc_checked, od_checked, .func (PySem.W.fnOf "checked" "checked" (defArgs (top 33)) (defBody (top 33)) (defScope (top 33)) .none kV_checked dc_checked pm_checked an_checked cd_checked ct_checked), sl_checked⟩)
    (e_checked : PySem.W.codeIn K cd_checked "checked" = true)
    (k_checked : PySem.W.keepIn K (.ref fCH) = true)
    (l_clash_of : K.lookup fCO2 = some ⟨oc_clash_of, od_clash_of, .func (PySem.W.fnOf "clash_of" "clash_of" (defArgs (top 35)) (defBody (top 35)) (defScope (top 35)) .none kV_clash_of dc_clash_of pm_clash_of an_clash_of cd_clash_of ct_clash_of), sl_clash_of⟩)
    (e_clash_of : PySem.W.codeIn K cd_clash_of "clash_of" = true)
    (k_clash_of : PySem.W.keepIn K (.ref fCO2) = true)
    (l_shown : K.lookup fSH = some ⟨oc_shown, od_shown, .func (PySem.W.fnOf "shown" "shown" (defArgs (top 36)) (defBody (top 36)) (defScope (top 36)) .none kV_shown dc_shown pm_shown an_shown cd_shown ct_shown), sl_shown⟩)
    (e_shown : PySem.W.codeIn K cd_shown "shown" = true)
    (k_shown : PySem.W.keepIn K (.ref fSH) = true)
    (l_is_whole : K.lookup fWH = some ⟨oc_is_whole, od_is_whole, .func (PySem.W.fnOf "is_whole" "is_whole" (defArgs (top 39)) (defBody (top 39)) (defScope (top 39)) .none kV_is_whole dc_is_whole pm_is_whole an_is_whole cd_is_whole ct_is_whole), sl_is_whole⟩)
    (e_is_whole : PySem.W.codeIn K cd_is_whole "is_whole" = true)
    (k_is_whole : PySem.W.keepIn K (.ref fWH) = true)
    (l_is_node : K.lookup fND = some ⟨oc_is_node, od_is_node, .func (PySem.W.fnOf "is_node" "is_node" (defArgs (top 40)) (defBody (top 40)) (defScope (top 40)) .none kV_is_node dc_is_node pm_is_node an_is_node cd_is_node ct_is_node), sl_is_node⟩)
    (e_is_node : PySem.W.codeIn K cd_is_node "is_node" = true)
    (k_is_node : PySem.W.keepIn K (.ref fND) = true)
    (l_node_at : K.lookup fNA = some ⟨oc_node_at, od_node_at, .func (PySem.W.fnOf "node_at" "node_at" (defArgs (top 41)) (defBody (top 41)) (defScope (top 41)) .none kV_node_at dc_node_at pm_node_at an_node_at cd_node_at ct_node_at), sl_node_at⟩)
    (e_node_at : PySem.W.codeIn K cd_node_at "node_at" = true)
    (k_node_at : PySem.W.keepIn K (.ref fNA) = true)
    (l_node_beneath : K.lookup fNB = some ⟨oc_node_beneath, od_node_beneath, .func (PySem.W.fnOf "node_beneath" "node_beneath" (defArgs (top 42)) (defBody (top 42)) (defScope (top 42)) .none kV_node_beneath dc_node_beneath pm_node_beneath an_node_beneath cd_node_beneath ct_node_beneath), sl_node_beneath⟩)
    (e_node_beneath : PySem.W.codeIn K cd_node_beneath "node_beneath" = true)
    (k_node_beneath : PySem.W.keepIn K (.ref fNB) = true)
    (l_rank : K.lookup fRK = some ⟨oc_rank, od_rank, .func (PySem.W.fnOf "rank" "rank" (defArgs (top 43)) (defBody (top 43)) (defScope (top 43)) .none kV_rank dc_rank pm_rank an_rank cd_rank ct_rank), sl_rank⟩)
    (e_rank : PySem.W.codeIn K cd_rank "rank" = true)
    (k_rank : PySem.W.keepIn K (.ref fRK) = true)
    (l_above : K.lookup fAB = some ⟨oc_above, od_above, .func (PySem.W.fnOf "above" "above" (defArgs (top 44)) (defBody (top 44)) (defScope (top 44)) .none kV_above dc_above pm_above an_above cd_above ct_above), sl_above⟩)
    (e_above : PySem.W.codeIn K cd_above "above" = true)
    (k_above : PySem.W.keepIn K (.ref fAB) = true)
    (l_part : K.lookup fPA = some ⟨oc_part, od_part, .func (PySem.W.fnOf "part" "part" (defArgs (top 47)) (defBody (top 47)) (defScope (top 47)) .none kV_part dc_part pm_part an_part cd_part ct_part), sl_part⟩)
    (e_part : PySem.W.codeIn K cd_part "part" = true)
    (k_part : PySem.W.keepIn K (.ref fPA) = true)
    (l_joined : K.lookup fJO = some ⟨oc_joined, od_joined, .func (PySem.W.fnOf "joined" "joined" (defArgs (top 48)) (defBody (top 48)) (defScope (top 48)) .none kV_joined dc_joined pm_joined an_joined cd_joined ct_joined), sl_joined⟩)
    (e_joined : PySem.W.codeIn K cd_joined "joined" = true)
    (k_joined : PySem.W.keepIn K (.ref fJO) = true)
    (l_rebuilt : K.lookup fRE = some ⟨oc_rebuilt, od_rebuilt, .func (PySem.W.fnOf "rebuilt" "rebuilt" (defArgs (top 49)) (defBody (top 49)) (defScope (top 49)) .none kV_rebuilt dc_rebuilt pm_rebuilt an_rebuilt cd_rebuilt ct_rebuilt), sl_rebuilt⟩)
    (e_rebuilt : PySem.W.codeIn K cd_rebuilt "rebuilt" = true)
    (k_rebuilt : PySem.W.keepIn K (.ref fRE) = true)
    (l_put : K.lookup fPU = some ⟨oc_put, od_put, .func (PySem.W.fnOf "put" "put" (defArgs (top 50)) (defBody (top 50)) (defScope (top 50)) .none kV_put dc_put pm_put an_put cd_put ct_put), sl_put⟩)
    (e_put : PySem.W.codeIn K cd_put "put" = true)
    (k_put : PySem.W.keepIn K (.ref fPU) = true)
    (l_cut : K.lookup fCU = some ⟨oc_cut, od_cut, .func (PySem.W.fnOf "cut" "cut" (defArgs (top 51)) (defBody (top 51)) (defScope (top 51)) .none kV_cut dc_cut pm_cut an_cut cd_cut ct_cut), sl_cut⟩)
    (e_cut : PySem.W.codeIn K cd_cut "cut" = true)
    (k_cut : PySem.W.keepIn K (.ref fCU) = true)
    (l_L_cell_at : K.lookup fLc = some ⟨oc_L_cell_at, od_L_cell_at, .func (PySem.W.fnOf "_law_cell_at" "_law_cell_at" (defArgs (top 56)) (defBody (top 56)) (defScope (top 56)) .none kV_L_cell_at dc_L_cell_at pm_L_cell_at an_L_cell_at cd_L_cell_at ct_L_cell_at), sl_L_cell_at⟩)
    (e_L_cell_at : PySem.W.codeIn K cd_L_cell_at "_law_cell_at" = true)
    (k_L_cell_at : PySem.W.keepIn K (.ref fLc) = true)
    (l_L_turned : K.lookup fLt = some ⟨oc_L_turned, od_L_turned, .func (PySem.W.fnOf "_law_turned" "_law_turned" (defArgs (top 57)) (defBody (top 57)) (defScope (top 57)) .none kV_L_turned dc_L_turned pm_L_turned an_L_turned cd_L_turned ct_L_turned), sl_L_turned⟩)
    (e_L_turned : PySem.W.codeIn K cd_L_turned "_law_turned" = true)
    (k_L_turned : PySem.W.keepIn K (.ref fLt) = true)
    (l_L_key : K.lookup fLk = some ⟨oc_L_key, od_L_key, .func (PySem.W.fnOf "_law_key" "_law_key" (defArgs (top 58)) (defBody (top 58)) (defScope (top 58)) .none kV_L_key dc_L_key pm_L_key an_L_key cd_L_key ct_L_key), sl_L_key⟩)
    (e_L_key : PySem.W.codeIn K cd_L_key "_law_key" = true)
    (k_L_key : PySem.W.keepIn K (.ref fLk) = true)
    (l_L_worth : K.lookup fLw = some ⟨oc_L_worth, od_L_worth, .func (PySem.W.fnOf "_law_worth" "_law_worth" (defArgs (top 59)) (defBody (top 59)) (defScope (top 59)) .none kV_L_worth dc_L_worth pm_L_worth an_L_worth cd_L_worth ct_L_worth), sl_L_worth⟩)
    (e_L_worth : PySem.W.codeIn K cd_L_worth "_law_worth" = true)
    (k_L_worth : PySem.W.keepIn K (.ref fLw) = true)
    (l_L_grown : K.lookup fLg = some ⟨oc_L_grown, od_L_grown, .func (PySem.W.fnOf "_law_grown" "_law_grown" (defArgs (top 62)) (defBody (top 62)) (defScope (top 62)) .none kV_L_grown dc_L_grown pm_L_grown an_L_grown cd_L_grown ct_L_grown), sl_L_grown⟩)
    (e_L_grown : PySem.W.codeIn K cd_L_grown "_law_grown" = true)
    (k_L_grown : PySem.W.keepIn K (.ref fLg) = true)
    (l_L_twinned : K.lookup fLn = some ⟨oc_L_twinned, od_L_twinned, .func (PySem.W.fnOf "_law_twinned" "_law_twinned" (defArgs (top 64)) (defBody (top 64)) (defScope (top 64)) .none kV_L_twinned dc_L_twinned pm_L_twinned an_L_twinned cd_L_twinned ct_L_twinned), sl_L_twinned⟩)
    (e_L_twinned : PySem.W.codeIn K cd_L_twinned "_law_twinned" = true)
    (k_L_twinned : PySem.W.keepIn K (.ref fLn) = true)
    (l_L_copy : K.lookup fLy = some ⟨oc_L_copy, od_L_copy, .func (PySem.W.fnOf "_law_copy" "_law_copy" (defArgs (top 65)) (defBody (top 65)) (defScope (top 65)) .none kV_L_copy dc_L_copy pm_L_copy an_L_copy cd_L_copy ct_L_copy), sl_L_copy⟩)
    (e_L_copy : PySem.W.codeIn K cd_L_copy "_law_copy" = true)
    (k_L_copy : PySem.W.keepIn K (.ref fLy) = true)
    (l_L_one : K.lookup fL1 = some ⟨oc_L_one, od_L_one, .func (PySem.W.fnOf "_law_one" "_law_one" (defArgs (top 66)) (defBody (top 66)) (defScope (top 66)) .none kV_L_one dc_L_one pm_L_one an_L_one cd_L_one ct_L_one), sl_L_one⟩)
    (e_L_one : PySem.W.codeIn K cd_L_one "_law_one" = true)
    (k_L_one : PySem.W.keepIn K (.ref fL1) = true)
    (l_L_holds : K.lookup fLh = some ⟨oc_L_holds, od_L_holds, .func (PySem.W.fnOf "_law_holds" "_law_holds" (defArgs (top 67)) (defBody (top 67)) (defScope (top 67)) .none kV_L_holds dc_L_holds pm_L_holds an_L_holds cd_L_holds ct_L_holds), sl_L_holds⟩)
    (e_L_holds : PySem.W.codeIn K cd_L_holds "_law_holds" = true)
    (k_L_holds : PySem.W.keepIn K (.ref fLh) = true)
    (l_law : K.lookup fLaw = some ⟨oc_law, od_law, .func (PySem.W.fnOf "law" "law" (defArgs (top 68)) (defBody (top 68)) (defScope (top 68)) .none kV_law dc_law pm_law an_law cd_law ct_law), sl_law⟩)
    (e_law : PySem.W.codeIn K cd_law "law" = true)
    (k_law : PySem.W.keepIn K (.ref fLaw) = true)
    (l_Clash_init : K.lookup fCLi = some ⟨oc_Clash_init, od_Clash_init, .func (PySem.W.fnOf "__init__" "Clash.__init__" (defArgs (inClass (top 4) 0)) (defBody (inClass (top 4) 0)) (defScope (inClass (top 4) 0)) .none kV_Clash_init dc_Clash_init pm_Clash_init an_Clash_init cd_Clash_init ct_Clash_init), sl_Clash_init⟩)
    (e_Clash_init : PySem.W.codeIn K cd_Clash_init "Clash.__init__" = true)
    (k_Clash_init : PySem.W.keepIn K (.ref fCLi) = true)
    (l_Vault_init : K.lookup fVi = some ⟨oc_Vault_init, od_Vault_init, .func (PySem.W.fnOf "__init__" "Vault.__init__" (defArgs (inClass (top 27) 0)) (defBody (inClass (top 27) 0)) (defScope (inClass (top 27) 0)) .none kV_Vault_init dc_Vault_init pm_Vault_init an_Vault_init cd_Vault_init ct_Vault_init), sl_Vault_init⟩)
    (e_Vault_init : PySem.W.codeIn K cd_Vault_init "Vault.__init__" = true)
    (k_Vault_init : PySem.W.keepIn K (.ref fVi) = true)
    (l_Vault_lay : K.lookup fVl = some ⟨oc_Vault_lay, od_Vault_lay, .func (PySem.W.fnOf "lay" "Vault.lay" (defArgs (inClass (top 27) 1)) (defBody (inClass (top 27) 1)) (defScope (inClass (top 27) 1)) .none kV_Vault_lay dc_Vault_lay pm_Vault_lay an_Vault_lay cd_Vault_lay ct_Vault_lay), sl_Vault_lay⟩)
    (e_Vault_lay : PySem.W.codeIn K cd_Vault_lay "Vault.lay" = true)
    (k_Vault_lay : PySem.W.keepIn K (.ref fVl) = true)
    (l_Vault_thing : K.lookup fVt = some ⟨oc_Vault_thing, od_Vault_thing, .func (PySem.W.fnOf "thing" "Vault.thing" (defArgs (inClass (top 27) 2)) (defBody (inClass (top 27) 2)) (defScope (inClass (top 27) 2)) .none kV_Vault_thing dc_Vault_thing pm_Vault_thing an_Vault_thing cd_Vault_thing ct_Vault_thing), sl_Vault_thing⟩)
    (e_Vault_thing : PySem.W.codeIn K cd_Vault_thing "Vault.thing" = true)
    (k_Vault_thing : PySem.W.keepIn K (.ref fVt) = true)
    (l_Vault_has : K.lookup fVh = some ⟨oc_Vault_has, od_Vault_has, .func (PySem.W.fnOf "has" "Vault.has" (defArgs (inClass (top 27) 3)) (defBody (inClass (top 27) 3)) (defScope (inClass (top 27) 3)) .none kV_Vault_has dc_Vault_has pm_Vault_has an_Vault_has cd_Vault_has ct_Vault_has), sl_Vault_has⟩)
    (e_Vault_has : PySem.W.codeIn K cd_Vault_has "Vault.has" = true)
    (k_Vault_has : PySem.W.keepIn K (.ref fVh) = true)
    (l_Keeper_things : K.lookup fKt = some ⟨oc_Keeper_things, od_Keeper_things, .func (PySem.W.fnOf "things" "Keeper.things" (defArgs (inClass (top 28) 0)) (defBody (inClass (top 28) 0)) (defScope (inClass (top 28) 0)) .none kV_Keeper_things dc_Keeper_things pm_Keeper_things an_Keeper_things cd_Keeper_things ct_Keeper_things), sl_Keeper_things⟩)
    (e_Keeper_things : PySem.W.codeIn K cd_Keeper_things "Keeper.things" = true)
    (k_Keeper_things : PySem.W.keepIn K (.ref fKt) = true)
    (l_Reader_init : K.lookup fRi = some ⟨oc_Reader_init, od_Reader_init, .func (PySem.W.fnOf "__init__" "Reader.__init__" (defArgs (inClass (top 29) 0)) (defBody (inClass (top 29) 0)) (defScope (inClass (top 29) 0)) .none kV_Reader_init dc_Reader_init pm_Reader_init an_Reader_init cd_Reader_init ct_Reader_init), sl_Reader_init⟩)
    (e_Reader_init : PySem.W.codeIn K cd_Reader_init "Reader.__init__" = true)
    (k_Reader_init : PySem.W.keepIn K (.ref fRi) = true)
    (l_Reader_lay : K.lookup fRl = some ⟨oc_Reader_lay, od_Reader_lay, .func (PySem.W.fnOf "lay" "Reader.lay" (defArgs (inClass (top 29) 1)) (defBody (inClass (top 29) 1)) (defScope (inClass (top 29) 1)) .none kV_Reader_lay dc_Reader_lay pm_Reader_lay an_Reader_lay cd_Reader_lay ct_Reader_lay), sl_Reader_lay⟩)
    (e_Reader_lay : PySem.W.codeIn K cd_Reader_lay "Reader.lay" = true)
    (k_Reader_lay : PySem.W.keepIn K (.ref fRl) = true)
    (l_Reader_thing : K.lookup fRt = some ⟨oc_Reader_thing, od_Reader_thing, .func (PySem.W.fnOf "thing" "Reader.thing" (defArgs (inClass (top 29) 2)) (defBody (inClass (top 29) 2)) (defScope (inClass (top 29) 2)) .none kV_Reader_thing dc_Reader_thing pm_Reader_thing an_Reader_thing cd_Reader_thing ct_Reader_thing), sl_Reader_thing⟩)
    (e_Reader_thing : PySem.W.codeIn K cd_Reader_thing "Reader.thing" = true)
    (k_Reader_thing : PySem.W.keepIn K (.ref fRt) = true)
    (l_Reader_paper : K.lookup fRp = some ⟨oc_Reader_paper, od_Reader_paper, .func (PySem.W.fnOf "paper" "Reader.paper" (defArgs (inClass (top 29) 3)) (defBody (inClass (top 29) 3)) (defScope (inClass (top 29) 3)) .none kV_Reader_paper dc_Reader_paper pm_Reader_paper an_Reader_paper cd_Reader_paper ct_Reader_paper), sl_Reader_paper⟩)
    (e_Reader_paper : PySem.W.codeIn K cd_Reader_paper "Reader.paper" = true)
    (k_Reader_paper : PySem.W.keepIn K (.ref fRp) = true)
    (l_Witness_init : K.lookup fWi = some ⟨oc_Witness_init, od_Witness_init, .func (PySem.W.fnOf "__init__" "Witness.__init__" (defArgs (inClass (top 30) 0)) (defBody (inClass (top 30) 0)) (defScope (inClass (top 30) 0)) .none kV_Witness_init dc_Witness_init pm_Witness_init an_Witness_init cd_Witness_init ct_Witness_init), sl_Witness_init⟩)
    (e_Witness_init : PySem.W.codeIn K cd_Witness_init "Witness.__init__" = true)
    (k_Witness_init : PySem.W.keepIn K (.ref fWi) = true)
    (l_Put_init : K.lookup fPi = some ⟨oc_Put_init, od_Put_init, .func (PySem.W.fnOf "__init__" "Put.__init__" (defArgs (inClass (top 54) 0)) (defBody (inClass (top 54) 0)) (defScope (inClass (top 54) 0)) .none kV_Put_init dc_Put_init pm_Put_init an_Put_init cd_Put_init ct_Put_init), sl_Put_init⟩)
    (e_Put_init : PySem.W.codeIn K cd_Put_init "Put.__init__" = true)
    (k_Put_init : PySem.W.keepIn K (.ref fPi) = true)
    (l_Put_answer : K.lookup fPa = some ⟨oc_Put_answer, od_Put_answer, .func (PySem.W.fnOf "answer" "Put.answer" (defArgs (inClass (top 54) 1)) (defBody (inClass (top 54) 1)) (defScope (inClass (top 54) 1)) .none kV_Put_answer dc_Put_answer pm_Put_answer an_Put_answer cd_Put_answer ct_Put_answer), sl_Put_answer⟩)
    (e_Put_answer : PySem.W.codeIn K cd_Put_answer "Put.answer" = true)
    (k_Put_answer : PySem.W.keepIn K (.ref fPa) = true)
    (pg_cK : PySem.W.plainGet K cK Str.empty = true)
    (hd_cK : PySem.W.hasDictIn K cK = true)
    (po_cK : PySem.W.plainOver K cK = true)
    (sa_cK : PySem.W.findIn K (.ref cK) "__setattr__" = some (some (.builtin "object.__setattr__")))
    (pg_cR : PySem.W.plainGet K cR Str.empty = true)
    (hd_cR : PySem.W.hasDictIn K cR = true)
    (po_cR : PySem.W.plainOver K cR = true)
    (sa_cR : PySem.W.findIn K (.ref cR) "__setattr__" = some (some (.builtin "object.__setattr__")))
    (pg_cW : PySem.W.plainGet K cW Str.empty = true)
    (hd_cW : PySem.W.hasDictIn K cW = true)
    (po_cW : PySem.W.plainOver K cW = true)
    (sa_cW : PySem.W.findIn K (.ref cW) "__setattr__" = some (some (.builtin "object.__setattr__")))
    (pg_cPut : PySem.W.plainGet K cPut Str.empty = true)
    (hd_cPut : PySem.W.hasDictIn K cPut = true)
    (po_cPut : PySem.W.plainOver K cPut = true)
    (sa_cPut : PySem.W.findIn K (.ref cPut) "__setattr__" = some (some (.builtin "object.__setattr__")))
    (n_cK_by_seal : PySem.W.findIn K (.ref cK) "by_seal" = some none)
    (n_cR_by_seal : PySem.W.findIn K (.ref cR) "by_seal" = some none)
    (n_cR_beneath : PySem.W.findIn K (.ref cR) "beneath" = some none)
    (n_cR_noted : PySem.W.findIn K (.ref cR) "noted" = some none)
    (n_cW_by_seal : PySem.W.findIn K (.ref cW) "by_seal" = some none)
    (n_cPut_key : PySem.W.findIn K (.ref cPut) "key" = some none)
    (n_cPut_worth : PySem.W.findIn K (.ref cPut) "worth" = some none)
    (m_cK_lay : PySem.W.findIn K (.ref cK) "lay" = some (some (.ref fVl)))
    (m_cK_thing : PySem.W.findIn K (.ref cK) "thing" = some (some (.ref fVt)))
    (m_cK_has : PySem.W.findIn K (.ref cK) "has" = some (some (.ref fVh)))
    (m_cK_things : PySem.W.findIn K (.ref cK) "things" = some (some (.ref fKt)))
    (m_cW_lay : PySem.W.findIn K (.ref cW) "lay" = some (some (.ref fVl)))
    (m_cW_thing : PySem.W.findIn K (.ref cW) "thing" = some (some (.ref fVt)))
    (m_cW_has : PySem.W.findIn K (.ref cW) "has" = some (some (.ref fVh)))
    (m_cR_lay : PySem.W.findIn K (.ref cR) "lay" = some (some (.ref fRl)))
    (m_cR_thing : PySem.W.findIn K (.ref cR) "thing" = some (some (.ref fRt)))
    (m_cR_has : PySem.W.findIn K (.ref cR) "has" = some (some (.ref fVh)))
    (m_cR_paper : PySem.W.findIn K (.ref cR) "paper" = some (some (.ref fRp)))
    (m_cPut_answer : PySem.W.findIn K (.ref cPut) "answer" = some (some (.ref fPa)))
    (fn_fVl : PySem.W.isFn K (.ref fVl) = true)
    (fn_fVt : PySem.W.isFn K (.ref fVt) = true)
    (fn_fVh : PySem.W.isFn K (.ref fVh) = true)
    (fn_fKt : PySem.W.isFn K (.ref fKt) = true)
    (fn_fRl : PySem.W.isFn K (.ref fRl) = true)
    (fn_fRt : PySem.W.isFn K (.ref fRt) = true)
    (fn_fRp : PySem.W.isFn K (.ref fRp) = true)
    (fn_fPa : PySem.W.isFn K (.ref fPa) = true)
    (fn_fVi : PySem.W.isFn K (.ref fVi) = true)
    (fn_fRi : PySem.W.isFn K (.ref fRi) = true)
    (fn_fWi : PySem.W.isFn K (.ref fWi) = true)
    (fn_fPi : PySem.W.isFn K (.ref fPi) = true)
    (mk_cK : PySem.W.makesIn K cK = true)
    (mi_cK : PySem.W.findIn K (.ref cK) "__init__" = some (some (.ref fVi)))
    (mp_cK : PySem.W.keepIn K (.ref cK) = true)
    (mk_cR : PySem.W.makesIn K cR = true)
    (mi_cR : PySem.W.findIn K (.ref cR) "__init__" = some (some (.ref fRi)))
    (mp_cR : PySem.W.keepIn K (.ref cR) = true)
    (mk_cW : PySem.W.makesIn K cW = true)
    (mi_cW : PySem.W.findIn K (.ref cW) "__init__" = some (some (.ref fWi)))
    (mp_cW : PySem.W.keepIn K (.ref cW) = true)
    (mk_cPut : PySem.W.makesIn K cPut = true)
    (mi_cPut : PySem.W.findIn K (.ref cPut) "__init__" = some (some (.ref fPi)))
    (mp_cPut : PySem.W.keepIn K (.ref cPut) = true)
    (rd_cV : PySem.W.readsIn K cV (.type "type") = true)
    (ga_cV : PySem.W.specialIn K (.ref cV) "__getattribute__" = some (some (.builtin "type.__getattribute__")))
    (fc_init : PySem.W.findCls K (.ref cV) (.type "type") "__init__" = some (.val (.ref fVi)))
    (fc_lay : PySem.W.findCls K (.ref cV) (.type "type") "lay" = some (.val (.ref fVl)))
    (fc_thing : PySem.W.findCls K (.ref cV) (.type "type") "thing" = some (.val (.ref fVt)))
    (rd_cVE : PySem.W.readsIn K cVE (.type "type") = true)
    (ga_cVE : PySem.W.specialIn K (.ref cVE) "__getattribute__" = some (some (.builtin "type.__getattribute__")))
    (fc_VE : PySem.W.findCls K (.ref cVE) (.type "type") "__init__" = some (.val (.builtin "ValueError.__init__")))
    (x_cl : K.lookup cCL = some (excClassObj nm_cl qn_cl cCL N_cl bs_cl bm_cl true sn_cl sub_cl ab_cl col_cl dd_cl m0_cl m1_cl m2_cl m3_cl m5_cl "ValueError.__new__"))
    (x_bm : PySem.HandSPX.refsVE bm_cl = true)
    (sa_cl : PySem.W.findIn K (.ref cCL) "__setattr__" = some (some (.builtin "object.__setattr__")))
    (ex_cl : PySem.W.subIn K (.ref cCL) (.type "BaseException") = some true)
    (ty_cl : PySem.W.typeIn K (.ref cCL) = some (.type "type"))
    (kp_cl : PySem.W.keepIn K (.ref cCL) = true)
    (ga_cl : PySem.W.findIn K (.ref cCL) "__getattribute__" = some (some (.builtin "BaseException.__getattribute__")))
    (gg_cl : PySem.W.findIn K (.ref cCL) "__getattr__" = some none)
    (hd_cl : PySem.W.hasDictIn K cCL = true)
    (one_cl : PySem.W.findIn K (.ref cCL) "one" = some none)
    (other_cl : PySem.W.findIn K (.ref cCL) "other" = some none)
    (tf_cl : PySem.W.typeIn K (.ref fCLi) = some (.type "function"))
    (np : PySem.W.excIn K cNP [.type "ValueError", .type "Exception", .type "BaseException", .type "object"] "ValueError.__new__" = true)
    (np_k : PySem.W.keepIn K (.ref cNP) = true)
    (np_b : PySem.W.subIn K (.ref cNP) (.type "BaseException") = some true)
    (np_t : PySem.W.typeIn K (.ref cNP) = some (.type "type"))
    (xb_bt : PySem.W.subIn K (.ref cBT) (.type "BaseException") = some true)
    (xt_bt : PySem.W.typeIn K (.ref cBT) = some (.type "type"))
    (xi_bt : PySem.W.isClsIn K cBT = true)
    (xi_np : PySem.W.isClsIn K cNP = true)
    (xi_cl : PySem.W.isClsIn K cCL = true)
    (xs_nn : PySem.W.subIn K (.ref cNP) (.ref cNP) = some true)
    (xs_nb : PySem.W.subIn K (.ref cNP) (.ref cBT) = some false)
    (xs_nc : PySem.W.subIn K (.ref cNP) (.ref cCL) = some false)
    (xs_cc : PySem.W.subIn K (.ref cCL) (.ref cCL) = some true)
    (Z : ∀ A : Ad, fa = A.fLaw → Txt K mg A → R) : R := by
  have e := hfa.symm.trans (PySem.W.mg_of X G a_law)
  cases e
  have F_text_codes := fun_mk (st := (top 11)) l_text_codes e_text_codes k_text_codes
  have B_text_codes := F_text_codes.binds (ps := ["text"]) fun _ _ _ _ _ _ us hl => match us, hl with | [_], _ => rfl
  have F_codes_of := fun_mk (st := (top 12)) l_codes_of e_codes_of k_codes_of
  have B_codes_of := F_codes_of.binds (ps := ["thing"]) fun _ _ _ _ _ _ us hl => match us, hl with | [_], _ => rfl
  have F_seal := fun_mk (st := (top 13)) l_seal e_seal k_seal
  have B_seal := F_seal.binds (ps := ["thing"]) fun _ _ _ _ _ _ us hl => match us, hl with | [_], _ => rfl
  have F_is_number := fun_mk (st := (top 19)) l_is_number e_is_number k_is_number
  have B_is_number := F_is_number.binds (ps := ["thing"]) fun _ _ _ _ _ _ us hl => match us, hl with | [_], _ => rfl
  have F_is_text := fun_mk (st := (top 20)) l_is_text e_is_text k_is_text
  have B_is_text := F_is_text.binds (ps := ["thing"]) fun _ _ _ _ _ _ us hl => match us, hl with | [_], _ => rfl
  have F_is_within := fun_mk (st := (top 21)) l_is_within e_is_within k_is_within
  have B_is_within := F_is_within.binds (ps := ["thing", "deep"]) fun _ _ _ _ _ _ us hl => match us, hl with | [_, _], _ => rfl
  have F_is_thing := fun_mk (st := (top 22)) l_is_thing e_is_thing k_is_thing
  have B_is_thing := F_is_thing.binds (ps := ["thing"]) fun _ _ _ _ _ _ us hl => match us, hl with | [_], _ => rfl
  have F_kind_of := fun_mk (st := (top 23)) l_kind_of e_kind_of k_kind_of
  have B_kind_of := F_kind_of.binds (ps := ["thing"]) fun _ _ _ _ _ _ us hl => match us, hl with | [_], _ => rfl
  have F_side_of := fun_mk (st := (top 24)) l_side_of e_side_of k_side_of
  have B_side_of := F_side_of.binds (ps := ["one", "other"]) fun _ _ _ _ _ _ us hl => match us, hl with | [_, _], _ => rfl
  have F_ahead := fun_mk (st := (top 25)) l_ahead e_ahead k_ahead
  have B_ahead := F_ahead.binds (ps := ["one", "other"]) fun _ _ _ _ _ _ us hl => match us, hl with | [_, _], _ => rfl
  have F_answer_with_paper := fun_mk (st := (top 32)) l_answer_with_paper e_answer_with_paper k_answer_with_paper
  have B_answer_with_paper := F_answer_with_paper.binds (ps := ["keeper", "root", "ask"]) fun _ _ _ _ _ _ us hl => match us, hl with | [_, _, _], _ => rfl
  have F_checked := fun_mk (st := (top 33)) l_checked e_checked k_checked
  have B_checked := F_checked.binds (ps := ["root", "ask", "some"]) fun _ _ _ _ _ _ us hl => match us, hl with | [_, _, _], _ => rfl
  have F_clash_of := fun_mk (st := (top 35)) l_clash_of e_clash_of k_clash_of
  have B_clash_of := F_clash_of.binds (ps := ["paper", "keeper"]) fun _ _ _ _ _ _ us hl => match us, hl with | [_, _], _ => rfl
  have F_shown := fun_mk (st := (top 36)) l_shown e_shown k_shown
  have B_shown := F_shown.binds (ps := ["root", "ask", "paper", "keeper"]) fun _ _ _ _ _ _ us hl => match us, hl with | [_, _, _, _], _ => rfl
  have F_is_whole := fun_mk (st := (top 39)) l_is_whole e_is_whole k_is_whole
  have B_is_whole := F_is_whole.binds (ps := ["thing", "least", "most"]) fun _ _ _ _ _ _ us hl => match us, hl with | [_, _, _], _ => rfl
  have F_is_node := fun_mk (st := (top 40)) l_is_node e_is_node k_is_node
  have B_is_node := F_is_node.binds (ps := ["thing"]) fun _ _ _ _ _ _ us hl => match us, hl with | [_], _ => rfl
  have F_node_at := fun_mk (st := (top 41)) l_node_at e_node_at k_node_at
  have B_node_at := F_node_at.binds (ps := ["vault", "root"]) fun _ _ _ _ _ _ us hl => match us, hl with | [_, _], _ => rfl
  have F_node_beneath := fun_mk (st := (top 42)) l_node_beneath e_node_beneath k_node_beneath
  have B_node_beneath := F_node_beneath.binds (ps := ["vault", "root", "count"]) fun _ _ _ _ _ _ us hl => match us, hl with | [_, _, _], _ => rfl
  have F_rank := fun_mk (st := (top 43)) l_rank e_rank k_rank
  have B_rank := F_rank.binds (ps := ["key"]) fun _ _ _ _ _ _ us hl => match us, hl with | [_], _ => rfl
  have F_above := fun_mk (st := (top 44)) l_above e_above k_above
  have B_above := F_above.binds (ps := ["key", "other"]) fun _ _ _ _ _ _ us hl => match us, hl with | [_, _], _ => rfl
  have F_part := fun_mk (st := (top 47)) l_part e_part k_part
  have B_part := F_part.binds (ps := ["vault", "root", "key"]) fun _ _ _ _ _ _ us hl => match us, hl with | [_, _, _], _ => rfl
  have F_joined := fun_mk (st := (top 48)) l_joined e_joined k_joined
  have B_joined := F_joined.binds (ps := ["vault", "left", "right", "most"]) fun _ _ _ _ _ _ us hl => match us, hl with | [_, _, _, _], _ => rfl
  have F_rebuilt := fun_mk (st := (top 49)) l_rebuilt e_rebuilt k_rebuilt
  have B_rebuilt := F_rebuilt.binds (ps := ["vault", "way", "key", "root", "more"]) fun _ _ _ _ _ _ us hl => match us, hl with | [_, _, _, _, _], _ => rfl
  have F_put := fun_mk (st := (top 50)) l_put e_put k_put
  have B_put := F_put.binds (ps := ["vault", "root", "key", "worth"]) fun _ _ _ _ _ _ us hl => match us, hl with | [_, _, _, _], _ => rfl
  have F_cut := fun_mk (st := (top 51)) l_cut e_cut k_cut
  have B_cut := F_cut.binds (ps := ["vault", "root", "key"]) fun _ _ _ _ _ _ us hl => match us, hl with | [_, _, _], _ => rfl
  have F_L_cell_at := fun_mk (st := (top 56)) l_L_cell_at e_L_cell_at k_L_cell_at
  have B_L_cell_at := F_L_cell_at.binds (ps := ["script", "k"]) fun _ _ _ _ _ _ us hl => match us, hl with | [_, _], _ => rfl
  have F_L_turned := fun_mk (st := (top 57)) l_L_turned e_L_turned k_L_turned
  have B_L_turned := F_L_turned.binds (ps := ["cell", "many"]) fun _ _ _ _ _ _ us hl => match us, hl with | [_, _], _ => rfl
  have F_L_key := fun_mk (st := (top 58)) l_L_key e_L_key k_L_key
  have B_L_key := F_L_key.binds (ps := ["number", "twin"]) fun _ _ _ _ _ _ us hl => match us, hl with | [_, _], _ => rfl
  have F_L_worth := fun_mk (st := (top 59)) l_L_worth e_L_worth k_L_worth
  have B_L_worth := F_L_worth.binds (ps := ["number", "twin"]) fun _ _ _ _ _ _ us hl => match us, hl with | [_, _], _ => rfl
  have F_L_grown := fun_mk (st := (top 62)) l_L_grown e_L_grown k_L_grown
  have B_L_grown := F_L_grown.binds (ps := ["keeper", "pairs", "numbers", "twin"]) fun _ _ _ _ _ _ us hl => match us, hl with | [_, _, _, _], _ => rfl
  have F_L_twinned := fun_mk (st := (top 64)) l_L_twinned e_L_twinned k_L_twinned
  have B_L_twinned := F_L_twinned.binds (ps := ["one"]) fun _ _ _ _ _ _ us hl => match us, hl with | [_], _ => rfl
  have F_L_copy := fun_mk (st := (top 65)) l_L_copy e_L_copy k_L_copy
  have B_L_copy := F_L_copy.binds (ps := ["keeper"]) fun _ _ _ _ _ _ us hl => match us, hl with | [_], _ => rfl
  have F_L_one := fun_mk (st := (top 66)) l_L_one e_L_one k_L_one
  have B_L_one := F_L_one.binds (ps := ["keeper", "root", "cell", "twin"]) fun _ _ _ _ _ _ us hl => match us, hl with | [_, _, _, _], _ => rfl
  have F_L_holds := fun_mk (st := (top 67)) l_L_holds e_L_holds k_L_holds
  have B_L_holds := F_L_holds.binds (ps := ["script"]) fun _ _ _ _ _ _ us hl => match us, hl with | [_], _ => rfl
  have F_law := fun_mk (st := (top 68)) l_law e_law k_law
  have B_law := F_law.binds (ps := ["script"]) fun _ _ _ _ _ _ us hl => match us, hl with | [_], _ => rfl
  have F_Clash_init := fun_mk (st := (inClass (top 4) 0)) l_Clash_init e_Clash_init k_Clash_init
  have B_Clash_init := F_Clash_init.binds (ps := ["self", "one", "other"]) fun _ _ _ _ _ _ us hl => match us, hl with | [_, _, _], _ => rfl
  have F_Vault_init := fun_mk (st := (inClass (top 27) 0)) l_Vault_init e_Vault_init k_Vault_init
  have B_Vault_init := F_Vault_init.binds (ps := ["self"]) fun _ _ _ _ _ _ us hl => match us, hl with | [_], _ => rfl
  have F_Vault_lay := fun_mk (st := (inClass (top 27) 1)) l_Vault_lay e_Vault_lay k_Vault_lay
  have B_Vault_lay := F_Vault_lay.binds (ps := ["self", "new"]) fun _ _ _ _ _ _ us hl => match us, hl with | [_, _], _ => rfl
  have F_Vault_thing := fun_mk (st := (inClass (top 27) 2)) l_Vault_thing e_Vault_thing k_Vault_thing
  have B_Vault_thing := F_Vault_thing.binds (ps := ["self", "number"]) fun _ _ _ _ _ _ us hl => match us, hl with | [_, _], _ => rfl
  have F_Vault_has := fun_mk (st := (inClass (top 27) 3)) l_Vault_has e_Vault_has k_Vault_has
  have B_Vault_has := F_Vault_has.binds (ps := ["self", "number"]) fun _ _ _ _ _ _ us hl => match us, hl with | [_, _], _ => rfl
  have F_Keeper_things := fun_mk (st := (inClass (top 28) 0)) l_Keeper_things e_Keeper_things k_Keeper_things
  have B_Keeper_things := F_Keeper_things.binds (ps := ["self"]) fun _ _ _ _ _ _ us hl => match us, hl with | [_], _ => rfl
  have F_Reader_init := fun_mk (st := (inClass (top 29) 0)) l_Reader_init e_Reader_init k_Reader_init
  have B_Reader_init := F_Reader_init.binds (ps := ["self", "keeper"]) fun _ _ _ _ _ _ us hl => match us, hl with | [_, _], _ => rfl
  have F_Reader_lay := fun_mk (st := (inClass (top 29) 1)) l_Reader_lay e_Reader_lay k_Reader_lay
  have B_Reader_lay := F_Reader_lay.binds (ps := ["self", "new"]) fun _ _ _ _ _ _ us hl => match us, hl with | [_, _], _ => rfl
  have F_Reader_thing := fun_mk (st := (inClass (top 29) 2)) l_Reader_thing e_Reader_thing k_Reader_thing
  have B_Reader_thing := F_Reader_thing.binds (ps := ["self", "number"]) fun _ _ _ _ _ _ us hl => match us, hl with | [_, _], _ => rfl
  have F_Reader_paper := fun_mk (st := (inClass (top 29) 3)) l_Reader_paper e_Reader_paper k_Reader_paper
  have B_Reader_paper := F_Reader_paper.binds (ps := ["self"]) fun _ _ _ _ _ _ us hl => match us, hl with | [_], _ => rfl
  have F_Witness_init := fun_mk (st := (inClass (top 30) 0)) l_Witness_init e_Witness_init k_Witness_init
  have B_Witness_init := F_Witness_init.binds (ps := ["self", "some"]) fun _ _ _ _ _ _ us hl => match us, hl with | [_, _], _ => rfl
  have F_Put_init := fun_mk (st := (inClass (top 54) 0)) l_Put_init e_Put_init k_Put_init
  have B_Put_init := F_Put_init.binds (ps := ["self", "key", "worth"]) fun _ _ _ _ _ _ us hl => match us, hl with | [_, _, _], _ => rfl
  have F_Put_answer := fun_mk (st := (inClass (top 54) 1)) l_Put_answer e_Put_answer k_Put_answer
  have B_Put_answer := F_Put_answer.binds (ps := ["self", "vault", "root"]) fun _ _ _ _ _ _ us hl => match us, hl with | [_, _, _], _ => rfl
  refine Z ⟨cVE, cNP, cBT, cCL, cV, cK, cR, cW, cPut, fCLi, fTC, fCO, fSE, fIN, fIT, fIW, fITh, fKO, fSO, fAH, fVi, fVl, fVt, fVh, fKt, fRi, fRl, fRt, fRp, fWi, fAP, fCH, fCO2, fSH, fWH, fND, fNA, fNB, fRK, fAB, fPA, fJO, fRE, fPU, fCU, fPi, fPa, fLc, fLt, fLk, fLw, fLg, fLn, fLy, fL1, fLh, fa⟩ rfl ?_
  exact {
    b_range := PySem.W.mg_none_of X G z_range
    b_len := PySem.W.mg_none_of X G z_len
    b_ord := PySem.W.mg_none_of X G z_ord
    b_isinstance := PySem.W.mg_none_of X G z_isinstance
    b_int := PySem.W.mg_none_of X G z_int
    b_str := PySem.W.mg_none_of X G z_str
    b_bool := PySem.W.mg_none_of X G z_bool
    b_tuple := PySem.W.mg_none_of X G z_tuple
    b_zip := PySem.W.mg_none_of X G z_zip
    b_reversed := PySem.W.mg_none_of X G z_reversed
    b_sorted := PySem.W.mg_none_of X G z_sorted
    b_list := PySem.W.mg_none_of X G z_list
    c_MOST_SEAL := ⟨_, PySem.W.mg_of X G c_MOST_SEAL⟩
    c_BASE := ⟨_, PySem.W.mg_of X G c_BASE⟩
    c_BEGIN := ⟨_, PySem.W.mg_of X G c_BEGIN⟩
    c_HALF := ⟨_, PySem.W.mg_of X G c_HALF⟩
    c_LEAST := ⟨_, PySem.W.mg_of X G c_LEAST⟩
    c_MOST_NUMBER := ⟨_, PySem.W.mg_of X G c_MOST_NUMBER⟩
    c_MOST_SIGNS := ⟨_, PySem.W.mg_of X G c_MOST_SIGNS⟩
    c_MOST_THINGS := ⟨_, PySem.W.mg_of X G c_MOST_THINGS⟩
    c_DEEPEST := ⟨_, PySem.W.mg_of X G c_DEEPEST⟩
    c_MOST_NODES := ⟨_, PySem.W.mg_of X G c_MOST_NODES⟩
    c_UNBOUND := ⟨_, PySem.W.mg_of X G c_UNBOUND⟩
    g_text_codes := PySem.W.mg_of X G a_text_codes
    d_text_codes := ⟨_, F_text_codes, B_text_codes⟩
    g_codes_of := PySem.W.mg_of X G a_codes_of
    d_codes_of := ⟨_, F_codes_of, B_codes_of⟩
    g_seal := PySem.W.mg_of X G a_seal
    d_seal := ⟨_, F_seal, B_seal⟩
    g_is_number := PySem.W.mg_of X G a_is_number
    d_is_number := ⟨_, F_is_number, B_is_number⟩
    g_is_text := PySem.W.mg_of X G a_is_text
    d_is_text := ⟨_, F_is_text, B_is_text⟩
    g_is_within := PySem.W.mg_of X G a_is_within
    d_is_within := ⟨_, F_is_within, B_is_within⟩
    g_is_thing := PySem.W.mg_of X G a_is_thing
    d_is_thing := ⟨_, F_is_thing, B_is_thing⟩
    g_kind_of := PySem.W.mg_of X G a_kind_of
    d_kind_of := ⟨_, F_kind_of, B_kind_of⟩
    g_side_of := PySem.W.mg_of X G a_side_of
    d_side_of := ⟨_, F_side_of, B_side_of⟩
    g_ahead := PySem.W.mg_of X G a_ahead
    d_ahead := ⟨_, F_ahead, B_ahead⟩
    g_answer_with_paper := PySem.W.mg_of X G a_answer_with_paper
    d_answer_with_paper := ⟨_, F_answer_with_paper, B_answer_with_paper⟩
    g_checked := PySem.W.mg_of X G a_checked
    d_checked := ⟨_, F_checked, B_checked⟩
    g_clash_of := PySem.W.mg_of X G a_clash_of
    d_clash_of := ⟨_, F_clash_of, B_clash_of⟩
    g_shown := PySem.W.mg_of X G a_shown
    d_shown := ⟨_, F_shown, B_shown⟩
    g_is_whole := PySem.W.mg_of X G a_is_whole
    d_is_whole := ⟨_, F_is_whole, B_is_whole⟩
    g_is_node := PySem.W.mg_of X G a_is_node
    d_is_node := ⟨_, F_is_node, B_is_node⟩
    g_node_at := PySem.W.mg_of X G a_node_at
    d_node_at := ⟨_, F_node_at, B_node_at⟩
    g_node_beneath := PySem.W.mg_of X G a_node_beneath
    d_node_beneath := ⟨_, F_node_beneath, B_node_beneath⟩
    g_rank := PySem.W.mg_of X G a_rank
    d_rank := ⟨_, F_rank, B_rank⟩
    g_above := PySem.W.mg_of X G a_above
    d_above := ⟨_, F_above, B_above⟩
    g_part := PySem.W.mg_of X G a_part
    d_part := ⟨_, F_part, B_part⟩
    g_joined := PySem.W.mg_of X G a_joined
    d_joined := ⟨_, F_joined, B_joined⟩
    g_rebuilt := PySem.W.mg_of X G a_rebuilt
    d_rebuilt := ⟨_, F_rebuilt, B_rebuilt⟩
    g_put := PySem.W.mg_of X G a_put
    d_put := ⟨_, F_put, B_put⟩
    g_cut := PySem.W.mg_of X G a_cut
    d_cut := ⟨_, F_cut, B_cut⟩
    g_L_cell_at := PySem.W.mg_of X G a_L_cell_at
    d_L_cell_at := ⟨_, F_L_cell_at, B_L_cell_at⟩
    g_L_turned := PySem.W.mg_of X G a_L_turned
    d_L_turned := ⟨_, F_L_turned, B_L_turned⟩
    g_L_key := PySem.W.mg_of X G a_L_key
    d_L_key := ⟨_, F_L_key, B_L_key⟩
    g_L_worth := PySem.W.mg_of X G a_L_worth
    d_L_worth := ⟨_, F_L_worth, B_L_worth⟩
    g_L_grown := PySem.W.mg_of X G a_L_grown
    d_L_grown := ⟨_, F_L_grown, B_L_grown⟩
    g_L_twinned := PySem.W.mg_of X G a_L_twinned
    d_L_twinned := ⟨_, F_L_twinned, B_L_twinned⟩
    g_L_copy := PySem.W.mg_of X G a_L_copy
    d_L_copy := ⟨_, F_L_copy, B_L_copy⟩
    g_L_one := PySem.W.mg_of X G a_L_one
    d_L_one := ⟨_, F_L_one, B_L_one⟩
    g_L_holds := PySem.W.mg_of X G a_L_holds
    d_L_holds := ⟨_, F_L_holds, B_L_holds⟩
    g_law := PySem.W.mg_of X G a_law
    d_law := ⟨_, F_law, B_law⟩
    g_VaultError := PySem.W.mg_of X G a_VaultError
    g_NoPaper := PySem.W.mg_of X G a_NoPaper
    g_BadThing := PySem.W.mg_of X G a_BadThing
    g_Clash := PySem.W.mg_of X G a_Clash
    g_Vault := PySem.W.mg_of X G a_Vault
    g_Keeper := PySem.W.mg_of X G a_Keeper
    g_Reader := PySem.W.mg_of X G a_Reader
    g_Witness := PySem.W.mg_of X G a_Witness
    g_Put := PySem.W.mg_of X G a_Put
    d_Clash_init := ⟨_, F_Clash_init, B_Clash_init⟩
    d_Vault_init := ⟨_, F_Vault_init, B_Vault_init⟩
    d_Vault_lay := ⟨_, F_Vault_lay, B_Vault_lay⟩
    d_Vault_thing := ⟨_, F_Vault_thing, B_Vault_thing⟩
    d_Vault_has := ⟨_, F_Vault_has, B_Vault_has⟩
    d_Keeper_things := ⟨_, F_Keeper_things, B_Keeper_things⟩
    d_Reader_init := ⟨_, F_Reader_init, B_Reader_init⟩
    d_Reader_lay := ⟨_, F_Reader_lay, B_Reader_lay⟩
    d_Reader_thing := ⟨_, F_Reader_thing, B_Reader_thing⟩
    d_Reader_paper := ⟨_, F_Reader_paper, B_Reader_paper⟩
    d_Witness_init := ⟨_, F_Witness_init, B_Witness_init⟩
    d_Put_init := ⟨_, F_Put_init, B_Put_init⟩
    d_Put_answer := ⟨_, F_Put_answer, B_Put_answer⟩
    i_cK := ⟨pg_cK, hd_cK, po_cK, sa_cK⟩
    i_cR := ⟨pg_cR, hd_cR, po_cR, sa_cR⟩
    i_cW := ⟨pg_cW, hd_cW, po_cW, sa_cW⟩
    i_cPut := ⟨pg_cPut, hd_cPut, po_cPut, sa_cPut⟩
    n_cK_by_seal := n_cK_by_seal
    n_cR_by_seal := n_cR_by_seal
    n_cR_beneath := n_cR_beneath
    n_cR_noted := n_cR_noted
    n_cW_by_seal := n_cW_by_seal
    n_cPut_key := n_cPut_key
    n_cPut_worth := n_cPut_worth
    m_cK_lay := ⟨m_cK_lay, fn_fVl, k_Vault_lay⟩
    m_cK_thing := ⟨m_cK_thing, fn_fVt, k_Vault_thing⟩
    m_cK_has := ⟨m_cK_has, fn_fVh, k_Vault_has⟩
    m_cK_things := ⟨m_cK_things, fn_fKt, k_Keeper_things⟩
    m_cW_lay := ⟨m_cW_lay, fn_fVl, k_Vault_lay⟩
    m_cW_thing := ⟨m_cW_thing, fn_fVt, k_Vault_thing⟩
    m_cW_has := ⟨m_cW_has, fn_fVh, k_Vault_has⟩
    m_cR_lay := ⟨m_cR_lay, fn_fRl, k_Reader_lay⟩
    m_cR_thing := ⟨m_cR_thing, fn_fRt, k_Reader_thing⟩
    m_cR_has := ⟨m_cR_has, fn_fVh, k_Vault_has⟩
    m_cR_paper := ⟨m_cR_paper, fn_fRp, k_Reader_paper⟩
    m_cPut_answer := ⟨m_cPut_answer, fn_fPa, k_Put_answer⟩
    k_cK := ⟨mk_cK, mi_cK, fn_fVi, mp_cK⟩
    k_cR := ⟨mk_cR, mi_cR, fn_fRi, mp_cR⟩
    k_cW := ⟨mk_cW, mi_cW, fn_fWi, mp_cW⟩
    k_cPut := ⟨mk_cPut, mi_cPut, fn_fPi, mp_cPut⟩
    f_cV_init := ⟨rd_cV, ga_cV, fc_init, k_Vault_init⟩
    f_cV_lay := ⟨rd_cV, ga_cV, fc_lay, k_Vault_lay⟩
    f_cV_thing := ⟨rd_cV, ga_cV, fc_thing, k_Vault_thing⟩
    vi := ⟨rd_cVE, ga_cVE, fc_VE⟩
    oex := ⟨⟨nm_cl, qn_cl, N_cl, bs_cl, bm_cl, sn_cl, sub_cl, ab_cl, col_cl, dd_cl, m0_cl, m1_cl, m2_cl, m3_cl, m5_cl, x_cl, x_bm⟩, sa_cl, ex_cl, ty_cl, kp_cl⟩
    xf := ⟨ga_cl, gg_cl, ex_cl, hd_cl⟩
    cl_one := one_cl
    cl_other := other_cl
    cl_init := a_Clash_init
    cl_ty := tf_cl
    np := np
    np_k := np_k
    np_b := np_b
    np_t := np_t
    e_np3 := exm_cons (exm_of np_b xi_np np_t xs_nn) (exm_cons (exm_of xb_bt xi_bt xt_bt xs_nb) (exm_cons (exm_of ex_cl xi_cl ty_cl xs_nc) rfl))
    e_npc := exm_cons (exm_of ex_cl xi_cl ty_cl xs_nc) rfl
    e_np2 := exm_cons (exm_of np_b xi_np np_t xs_nn) (exm_cons (exm_of xb_bt xi_bt xt_bt xs_nb) rfl)
    e_clc := exm_cons (exm_of ex_cl xi_cl ty_cl xs_cc) rfl
    e_cl1 := (exm_of ex_cl xi_cl ty_cl xs_cc)
  }

theorem walk {l : PySem.W.OpenLaw} {q : Program} {loose : List Str} {XP : (Str → Option Value) → Heap → Prop} {YP : World → Heap → Prop} {d : DefRec} {K : Params → PySem.W.Frag} (hn : l.most = some 63) (hdf : d.params.defaults = [])
    (hY : ∀ (w : World) (h : Heap), YP w h → (K w.params).In h)
    (F : ∀ (w : World) (mg : Str → Option Value) (fa : Addr) (h : Heap), (K w.params).In h → h.Ns mainGlobals mg → mg d.name = some (.ref fa) →
      ∃ fd : FuncData, (∀ (s : Shared) (u : Value), BindsTo s fd ⟨[u], []⟩ [("script", u)]) ∧ ∀ base : Heap, (K w.params).In base → base.Ns mainGlobals mg → FnOk l.prog w (K w.params) mg base CX0 40 fa fd ["script"] (spLaw (K w.params))) :
    PySem.W.WalkO q loose XP YP l.row.toRowW d [] (fun f vs => PySem.call f vs) :=
  L2.walk_of (n := 63) (k := 40) (x := "script") (CX := fun _ => CX0) (sp := fun w => spLaw (K w.params)) hn (by decide) hdf ⟨rfl, by decide, by decide⟩ hY F (fun _ _ a ns hl _ hS => ⟨a, ns, rfl, hS, hl, fun _ => rfl⟩) fun _ _ _ _ _ z => z
/-- the law's own def, as the walk asks for it -/
theorem law_found {P : Program} {w : World} {K : PySem.W.Frag} {mg : Str → Option Value} {fa : Addr} {A : Ad} (e : fa = A.fLaw) (T : Txt K mg A) :
    ∃ fd : FuncData, (∀ (s : Shared) (u : Value), BindsTo s fd ⟨[u], []⟩ [("script", u)]) ∧ ∀ base : Heap, K.In base → base.Ns mainGlobals mg → FnOk P w K mg base CX0 40 fa fd ["script"] (spLaw K) := by
  subst e
  obtain ⟨fd, F, _⟩ := T.d_law
  refine ⟨fd, fun s u => ?_, fun base _ _ => (law_fn T F).mono (by decide)⟩
  obtain ⟨_, _, _, _, _, _, _, _, _, e, _, _⟩ := F.ex
  rw [e]
  exact .of_eq rfl
end PV

open PySem PySem.W PyProof.Rows in
set_option maxRecDepth 100000 in
set_option maxHeartbeats 0 in
theorem PySem.Challenge.cw_papervault_k50_shown_where_the_keeper_fa_holds : PySem.Challenge.rw_papervault_k50_shown_where_the_keeper_fa.Holds := by
  w_on; o_law; k_head; (case hw => w_witness2)
  k_fill
  refine PV.walk (l := PySem.Challenge.rw_papervault_k50_shown_where_the_keeper_fa) rfl rfl (fun w h Y => PySem.W.kIn_of Y) ?F
  case F =>
    intro w mg fa h KX G hmg
    refine' PV.all_mk KX G hmg ?z_range ?z_len ?z_ord ?z_isinstance ?z_int ?z_str ?z_bool ?z_tuple ?z_zip ?z_reversed ?z_sorted ?z_list ?c_MOST_SEAL ?c_BASE ?c_BEGIN ?c_HALF ?c_LEAST ?c_MOST_NUMBER ?c_MOST_SIGNS ?c_MOST_THINGS ?c_DEEPEST ?c_MOST_NODES ?c_UNBOUND ?a_text_codes ?a_codes_of ?a_seal ?a_is_number ?a_is_text ?a_is_within ?a_is_thing ?a_kind_of ?a_side_of ?a_ahead ?a_answer_with_paper ?a_checked ?a_clash_of ?a_shown ?a_is_whole ?a_is_node ?a_node_at ?a_node_beneath ?a_rank ?a_above ?a_part ?a_joined ?a_rebuilt ?a_put ?a_cut ?a_L_cell_at ?a_L_turned ?a_L_key ?a_L_worth ?a_L_grown ?a_L_twinned ?a_L_copy ?a_L_one ?a_L_holds ?a_law ?a_VaultError ?a_NoPaper ?a_BadThing ?a_Clash ?a_Vault ?a_Keeper ?a_Reader ?a_Witness ?a_Put ?a_Clash_init ?a_Vault_init ?a_Vault_lay ?a_Vault_thing ?a_Vault_has ?a_Keeper_things ?a_Reader_init ?a_Reader_lay ?a_Reader_thing ?a_Reader_paper ?a_Witness_init ?a_Put_init ?a_Put_answer ?l_text_codes ?e_text_codes ?k_text_codes ?l_codes_of ?e_codes_of ?k_codes_of ?l_seal ?e_seal ?k_seal ?l_is_number ?e_is_number ?k_is_number ?l_is_text ?e_is_text ?k_is_text ?l_is_within ?e_is_within ?k_is_within ?l_is_thing ?e_is_thing ?k_is_thing ?l_kind_of ?e_kind_of ?k_kind_of ?l_side_of ?e_side_of ?k_side_of ?l_ahead ?e_ahead ?k_ahead ?l_answer_with_paper ?e_answer_with_paper ?k_answer_with_paper ?l_checked ?e_checked ?k_checked ?l_clash_of ?e_clash_of ?k_clash_of ?l_shown ?e_shown ?k_shown ?l_is_whole ?e_is_whole ?k_is_whole ?l_is_node ?e_is_node ?k_is_node ?l_node_at ?e_node_at ?k_node_at ?l_node_beneath ?e_node_beneath ?k_node_beneath ?l_rank ?e_rank ?k_rank ?l_above ?e_above ?k_above ?l_part ?e_part ?k_part ?l_joined ?e_joined ?k_joined ?l_rebuilt ?e_rebuilt ?k_rebuilt ?l_put ?e_put ?k_put ?l_cut ?e_cut ?k_cut ?l_L_cell_at ?e_L_cell_at ?k_L_cell_at ?l_L_turned ?e_L_turned ?k_L_turned ?l_L_key ?e_L_key ?k_L_key ?l_L_worth ?e_L_worth ?k_L_worth ?l_L_grown ?e_L_grown ?k_L_grown ?l_L_twinned ?e_L_twinned ?k_L_twinned ?l_L_copy ?e_L_copy ?k_L_copy ?l_L_one ?e_L_one ?k_L_one ?l_L_holds ?e_L_holds ?k_L_holds ?l_law ?e_law ?k_law ?l_Clash_init ?e_Clash_init ?k_Clash_init ?l_Vault_init ?e_Vault_init ?k_Vault_init ?l_Vault_lay ?e_Vault_lay ?k_Vault_lay ?l_Vault_thing ?e_Vault_thing ?k_Vault_thing ?l_Vault_has ?e_Vault_has ?k_Vault_has ?l_Keeper_things ?e_Keeper_things ?k_Keeper_things ?l_Reader_init ?e_Reader_init ?k_Reader_init ?l_Reader_lay ?e_Reader_lay ?k_Reader_lay ?l_Reader_thing ?e_Reader_thing ?k_Reader_thing ?l_Reader_paper ?e_Reader_paper ?k_Reader_paper ?l_Witness_init ?e_Witness_init ?k_Witness_init ?l_Put_init ?e_Put_init ?k_Put_init ?l_Put_answer ?e_Put_answer ?k_Put_answer ?pg_cK ?hd_cK ?po_cK ?sa_cK ?pg_cR ?hd_cR ?po_cR ?sa_cR ?pg_cW ?hd_cW ?po_cW ?sa_cW ?pg_cPut ?hd_cPut ?po_cPut ?sa_cPut ?n_cK_by_seal ?n_cR_by_seal ?n_cR_beneath ?n_cR_noted ?n_cW_by_seal ?n_cPut_key ?n_cPut_worth ?m_cK_lay ?m_cK_thing ?m_cK_has ?m_cK_things ?m_cW_lay ?m_cW_thing ?m_cW_has ?m_cR_lay ?m_cR_thing ?m_cR_has ?m_cR_paper ?m_cPut_answer ?fn_fVl ?fn_fVt ?fn_fVh ?fn_fKt ?fn_fRl ?fn_fRt ?fn_fRp ?fn_fPa ?fn_fVi ?fn_fRi ?fn_fWi ?fn_fPi ?mk_cK ?mi_cK ?mp_cK ?mk_cR ?mi_cR ?mp_cR ?mk_cW ?mi_cW ?mp_cW ?mk_cPut ?mi_cPut ?mp_cPut ?rd_cV ?ga_cV ?fc_init ?fc_lay ?fc_thing ?rd_cVE ?ga_cVE ?fc_VE ?x_cl ?x_bm ?sa_cl ?ex_cl ?ty_cl ?kp_cl ?ga_cl ?gg_cl ?hd_cl ?one_cl ?other_cl ?tf_cl ?np ?np_k ?np_b ?np_t ?xb_bt ?xt_bt ?xi_bt ?xi_np ?xi_cl ?xs_nn ?xs_nb ?xs_nc ?xs_cc (fun A e T => PV.law_found e T)
    (case z_range => k_is)
    (case z_len => k_is)
    (case z_ord => k_is)
    (case z_isinstance => k_is)
    (case z_int => k_is)
    (case z_str => k_is)
    (case z_bool => k_is)
    (case z_tuple => k_is)
    (case z_zip => k_is)
    (case z_reversed => k_is)
    (case z_sorted => k_is)
    (case z_list => k_is)
    (case c_MOST_SEAL => k_is)
    (case c_BASE => k_is)
    (case c_BEGIN => k_is)
    (case c_HALF => k_is)
    (case c_LEAST => k_is)
    (case c_MOST_NUMBER => k_is)
    (case c_MOST_SIGNS => k_is)
    (case c_MOST_THINGS => k_is)
    (case c_DEEPEST => k_is)
    (case c_MOST_NODES => k_is)
    (case c_UNBOUND => k_is)
    (case a_text_codes => k_is)
    (case a_codes_of => k_is)
    (case a_seal => k_is)
    (case a_is_number => k_is)
    (case a_is_text => k_is)
    (case a_is_within => k_is)
    (case a_is_thing => k_is)
    (case a_kind_of => k_is)
    (case a_side_of => k_is)
    (case a_ahead => k_is)
    (case a_answer_with_paper => k_is)
    (case a_checked => k_is)
    (case a_clash_of => k_is)
    (case a_shown => k_is)
    (case a_is_whole => k_is)
    (case a_is_node => k_is)
    (case a_node_at => k_is)
    (case a_node_beneath => k_is)
    (case a_rank => k_is)
    (case a_above => k_is)
    (case a_part => k_is)
    (case a_joined => k_is)
    (case a_rebuilt => k_is)
    (case a_put => k_is)
    (case a_cut => k_is)
    (case a_L_cell_at => k_is)
    (case a_L_turned => k_is)
    (case a_L_key => k_is)
    (case a_L_worth => k_is)
    (case a_L_grown => k_is)
    (case a_L_twinned => k_is)
    (case a_L_copy => k_is)
    (case a_L_one => k_is)
    (case a_L_holds => k_is)
    (case a_law => k_is)
    (case a_VaultError => k_is)
    (case a_NoPaper => k_is)
    (case a_BadThing => k_is)
    (case a_Clash => k_is)
    (case a_Vault => k_is)
    (case a_Keeper => k_is)
    (case a_Reader => k_is)
    (case a_Witness => k_is)
    (case a_Put => k_is)
    (case a_Clash_init => k_is)
    (case a_Vault_init => k_is)
    (case a_Vault_lay => k_is)
    (case a_Vault_thing => k_is)
    (case a_Vault_has => k_is)
    (case a_Keeper_things => k_is)
    (case a_Reader_init => k_is)
    (case a_Reader_lay => k_is)
    (case a_Reader_thing => k_is)
    (case a_Reader_paper => k_is)
    (case a_Witness_init => k_is)
    (case a_Put_init => k_is)
    (case a_Put_answer => k_is)
    (case l_text_codes => k_is)
    (case e_text_codes => k_is)
    (case k_text_codes => k_is)
    (case l_codes_of => k_is)
    (case e_codes_of => k_is)
    (case k_codes_of => k_is)
    (case l_seal => k_is)
    (case e_seal => k_is)
    (case k_seal => k_is)
    (case l_is_number => k_is)
    (case e_is_number => k_is)
    (case k_is_number => k_is)
    (case l_is_text => k_is)
    (case e_is_text => k_is)
    (case k_is_text => k_is)
    (case l_is_within => k_is)
    (case e_is_within => k_is)
    (case k_is_within => k_is)
    (case l_is_thing => k_is)
    (case e_is_thing => k_is)
    (case k_is_thing => k_is)
    (case l_kind_of => k_is)
    (case e_kind_of => k_is)
    (case k_kind_of => k_is)
    (case l_side_of => k_is)
    (case e_side_of => k_is)
    (case k_side_of => k_is)
    (case l_ahead => k_is)
    (case e_ahead => k_is)
    (case k_ahead => k_is)
    (case l_answer_with_paper => k_is)
    (case e_answer_with_paper => k_is)
    (case k_answer_with_paper => k_is)
    (case l_checked => k_is)
    (case e_checked => k_is)
    (case k_checked => k_is)
    (case l_clash_of => k_is)
    (case e_clash_of => k_is)
    (case k_clash_of => k_is)
    (case l_shown => k_is)
    (case e_shown => k_is)
    (case k_shown => k_is)
    (case l_is_whole => k_is)
    (case e_is_whole => k_is)
    (case k_is_whole => k_is)
    (case l_is_node => k_is)
    (case e_is_node => k_is)
    (case k_is_node => k_is)
    (case l_node_at => k_is)
    (case e_node_at => k_is)
    (case k_node_at => k_is)
    (case l_node_beneath => k_is)
    (case e_node_beneath => k_is)
    (case k_node_beneath => k_is)
    (case l_rank => k_is)
    (case e_rank => k_is)
    (case k_rank => k_is)
    (case l_above => k_is)
    (case e_above => k_is)
    (case k_above => k_is)
    (case l_part => k_is)
    (case e_part => k_is)
    (case k_part => k_is)
    (case l_joined => k_is)
    (case e_joined => k_is)
    (case k_joined => k_is)
    (case l_rebuilt => k_is)
    (case e_rebuilt => k_is)
    (case k_rebuilt => k_is)
    (case l_put => k_is)
    (case e_put => k_is)
    (case k_put => k_is)
    (case l_cut => k_is)
    (case e_cut => k_is)
    (case k_cut => k_is)
    (case l_L_cell_at => k_is)
    (case e_L_cell_at => k_is)
    (case k_L_cell_at => k_is)
    (case l_L_turned => k_is)
    (case e_L_turned => k_is)
    (case k_L_turned => k_is)
    (case l_L_key => k_is)
    (case e_L_key => k_is)
    (case k_L_key => k_is)
    (case l_L_worth => k_is)
    (case e_L_worth => k_is)
    (case k_L_worth => k_is)
    (case l_L_grown => k_is)
    (case e_L_grown => k_is)
    (case k_L_grown => k_is)
    (case l_L_twinned => k_is)
    (case e_L_twinned => k_is)
    (case k_L_twinned => k_is)
    (case l_L_copy => k_is)
    (case e_L_copy => k_is)
    (case k_L_copy => k_is)
    (case l_L_one => k_is)
    (case e_L_one => k_is)
    (case k_L_one => k_is)
    (case l_L_holds => k_is)
    (case e_L_holds => k_is)
    (case k_L_holds => k_is)
    (case l_law => k_is)
    (case e_law => k_is)
    (case k_law => k_is)
    (case l_Clash_init => k_is)
    (case e_Clash_init => k_is)
    (case k_Clash_init => k_is)
    (case l_Vault_init => k_is)
    (case e_Vault_init => k_is)
    (case k_Vault_init => k_is)
    (case l_Vault_lay => k_is)
    (case e_Vault_lay => k_is)
    (case k_Vault_lay => k_is)
    (case l_Vault_thing => k_is)
    (case e_Vault_thing => k_is)
    (case k_Vault_thing => k_is)
    (case l_Vault_has => k_is)
    (case e_Vault_has => k_is)
    (case k_Vault_has => k_is)
    (case l_Keeper_things => k_is)
    (case e_Keeper_things => k_is)
    (case k_Keeper_things => k_is)
    (case l_Reader_init => k_is)
    (case e_Reader_init => k_is)
    (case k_Reader_init => k_is)
    (case l_Reader_lay => k_is)
    (case e_Reader_lay => k_is)
    (case k_Reader_lay => k_is)
    (case l_Reader_thing => k_is)
    (case e_Reader_thing => k_is)
    (case k_Reader_thing => k_is)
    (case l_Reader_paper => k_is)
    (case e_Reader_paper => k_is)
    (case k_Reader_paper => k_is)
    (case l_Witness_init => k_is)
    (case e_Witness_init => k_is)
    (case k_Witness_init => k_is)
    (case l_Put_init => k_is)
    (case e_Put_init => k_is)
    (case k_Put_init => k_is)
    (case l_Put_answer => k_is)
    (case e_Put_answer => k_is)
    (case k_Put_answer => k_is)
    (case pg_cK => k_is)
    (case hd_cK => k_is)
    (case po_cK => k_is)
    (case sa_cK => k_is)
    (case pg_cR => k_is)
    (case hd_cR => k_is)
    (case po_cR => k_is)
    (case sa_cR => k_is)
    (case pg_cW => k_is)
    (case hd_cW => k_is)
    (case po_cW => k_is)
    (case sa_cW => k_is)
    (case pg_cPut => k_is)
    (case hd_cPut => k_is)
    (case po_cPut => k_is)
    (case sa_cPut => k_is)
    (case n_cK_by_seal => k_is)
    (case n_cR_by_seal => k_is)
    (case n_cR_beneath => k_is)
    (case n_cR_noted => k_is)
    (case n_cW_by_seal => k_is)
    (case n_cPut_key => k_is)
    (case n_cPut_worth => k_is)
    (case m_cK_lay => k_is)
    (case m_cK_thing => k_is)
    (case m_cK_has => k_is)
    (case m_cK_things => k_is)
    (case m_cW_lay => k_is)
    (case m_cW_thing => k_is)
    (case m_cW_has => k_is)
    (case m_cR_lay => k_is)
    (case m_cR_thing => k_is)
    (case m_cR_has => k_is)
    (case m_cR_paper => k_is)
    (case m_cPut_answer => k_is)
    (case fn_fVl => k_is)
    (case fn_fVt => k_is)
    (case fn_fVh => k_is)
    (case fn_fKt => k_is)
    (case fn_fRl => k_is)
    (case fn_fRt => k_is)
    (case fn_fRp => k_is)
    (case fn_fPa => k_is)
    (case fn_fVi => k_is)
    (case fn_fRi => k_is)
    (case fn_fWi => k_is)
    (case fn_fPi => k_is)
    (case mk_cK => k_is)
    (case mi_cK => k_is)
    (case mp_cK => k_is)
    (case mk_cR => k_is)
    (case mi_cR => k_is)
    (case mp_cR => k_is)
    (case mk_cW => k_is)
    (case mi_cW => k_is)
    (case mp_cW => k_is)
    (case mk_cPut => k_is)
    (case mi_cPut => k_is)
    (case mp_cPut => k_is)
    (case rd_cV => k_is)
    (case ga_cV => k_is)
    (case fc_init => k_is)
    (case fc_lay => k_is)
    (case fc_thing => k_is)
    (case rd_cVE => k_is)
    (case ga_cVE => k_is)
    (case fc_VE => k_is)
    (case x_cl => k_is)
    (case x_bm => decide +kernel)
    (case sa_cl => k_is)
    (case ex_cl => k_is)
    (case ty_cl => k_is)
    (case kp_cl => k_is)
    (case ga_cl => k_is)
    (case gg_cl => k_is)
    (case hd_cl => k_is)
    (case one_cl => k_is)
    (case other_cl => k_is)
    (case tf_cl => k_is)
    (case np => k_exc)
    (case np_k => k_is)
    (case np_b => k_is)
    (case np_t => k_is)
    (case xb_bt => k_is)
    (case xt_bt => k_is)
    (case xi_bt => k_is)
    (case xi_np => k_is)
    (case xi_cl => k_is)
    (case xs_nn => k_is)
    (case xs_nb => k_is)
    (case xs_nc => k_is)
    (case xs_cc => k_is)
