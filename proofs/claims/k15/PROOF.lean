import PyProof.Rows.All
import Wide.All
import OpenK.AllK
import Wide.FinOn
import HandS.ForMost
import HandS.Evl
import HandS.IsInst
import HandS.Star
import PyProof.ZipIter
import PyProof.Rows.ZipGen
import KE.KDictZip
import HandS.DictTup
import HandS.SortOrd
import PyProof.Rows.SortKeyStr
import HandS.Keys
import HandS.Zip
import PyProof.ListStr
import KE.KDictPairs
import KE.KItemsList
import HandS.ListItems
import HandS.SetFor
import HandS.Strs
import HandS.TupMul
import HandS.Conv
import HandS.SortInts
import PyProof.WalksMore
import PyProof.SumWalkG
import HandS.Words
import HandS.Text
import HandS.WordsDict
import PySem.Challenge.RW_ownlists_k15_whole_books_known_outright
import HandS.Style
import KE.GoesZip
import KE.GoesMore
import KE.GoesEnum
import KE.KDictKeyed
import KE.KDictDisplayH
import KE.KDictWalk
import HandS.Flow
import PyProof.FitsReplace
import KE.KRevSl
import PyProof.Rows.ReprOcc
set_option linter.all false
/-! OlMath: rows, what is due, what is laid. Plain Lean. -/
namespace Ol
section
variable {α : Type} [DecidableEq α]

/-- d with v at b -/
def put (d : α → Int) (b : α) (v : Int) : α → Int := fun x => if x = b then v else d x
theorem put_same {d : α → Int} {b : α} {v : Int} : put d b v b = v := by unfold put; rw [if_pos rfl]
theorem put_ne {d : α → Int} {b x : α} {v : Int} (h : x ≠ b) : put d b v x = d x := by unfold put; rw [if_neg h]
theorem put_put {d : α → Int} {b : α} {v w : Int} : put (put d b v) b w = put d b w := by
  funext x; unfold put; split <;> rfl
theorem put_self {d : α → Int} {b : α} : put d b (d b) = d := by
  funext x; unfold put; split
  · rename_i e; rw [e]
  · rfl
theorem put_comm {d : α → Int} {a b : α} {v w : Int} (h : a ≠ b) : put (put d a v) b w = put (put d b w) a v := by
  funext x; unfold put
  by_cases h1 : x = a
  · subst h1; rw [if_neg h, if_pos rfl, if_pos rfl]
  · rw [if_neg h1]; split <;> rfl

def min2 (i j : Int) : Int := if j < i then j else i

/-- an amount r laid by a row: on which names how much; what is due then; what is left -/
def lay : List α → (α → Int) → Int → List (α × Int) × (α → Int) × Int
  | [], d, r => ([], d, r)
  | b :: bs, d, r =>
    if 0 < min2 r (d b) then
      let q := lay bs (put d b (d b - min2 r (d b))) (r - min2 r (d b))
      ((b, min2 r (d b)) :: q.1, q.2)
    else lay bs d r
abbrev layF (row : List α) (d : α → Int) (r : Int) : List (α × Int) := (lay row d r).1
abbrev layD (row : List α) (d : α → Int) (r : Int) : α → Int := (lay row d r).2.1
abbrev layR (row : List α) (d : α → Int) (r : Int) : Int := (lay row d r).2.2

theorem lay_nil (d : α → Int) (r : Int) : lay [] d r = ([], d, r) := rfl
theorem lay_yes {b : α} {bs : List α} {d : α → Int} {r : Int} (h : 0 < min2 r (d b)) :
    lay (b :: bs) d r = ((b, min2 r (d b)) :: (lay bs (put d b (d b - min2 r (d b))) (r - min2 r (d b))).1, (lay bs (put d b (d b - min2 r (d b))) (r - min2 r (d b))).2) := by
  show (if 0 < min2 r (d b) then _ else _) = _
  rw [if_pos h]
theorem lay_no {b : α} {bs : List α} {d : α → Int} {r : Int} (h : ¬ 0 < min2 r (d b)) : lay (b :: bs) d r = lay bs d r := by
  show (if 0 < min2 r (d b) then _ else _) = _
  rw [if_neg h]

def NN (d : α → Int) : Prop := ∀ x, 0 ≤ d x
theorem NN.put {d : α → Int} (h : NN d) {b : α} {v : Int} (hv : 0 ≤ v) : NN (put d b v) := fun x => by
  unfold Ol.put; split
  · exact hv
  · exact h x

theorem lay_nn : ∀ (row : List α) (d : α → Int) (r : Int), NN d → 0 ≤ r → NN (layD row d r) ∧ 0 ≤ layR row d r
  | [], d, r, h, hr => ⟨h, hr⟩
  | b :: bs, d, r, h, hr => by
    by_cases c : 0 < min2 r (d b)
    · have hb := h b
      have e1 : 0 ≤ d b - min2 r (d b) := by unfold min2; split <;> omega
      have e2 : 0 ≤ r - min2 r (d b) := by unfold min2; split <;> omega
      unfold layD layR
      rw [lay_yes c]
      exact lay_nn bs _ _ (h.put e1) e2
    · unfold layD layR
      rw [lay_no c]
      exact lay_nn bs d r h hr

/-! ### one coin -/
def opn (d : α → Int) (x : α) : Bool := decide (0 < d x)
def one (row : List α) (d : α → Int) : α → Int := match row.find? (opn d) with
  | none => d
  | some b => put d b (d b - 1)
theorem one_nn {row : List α} {d : α → Int} (h : NN d) : NN (one row d) := by
  unfold one
  split
  · exact h
  · rename_i b e
    have := List.find?_some e
    unfold opn at this
    have : 0 < d b := of_decide_eq_true this
    exact h.put (by omega)
theorem one_cons_no {b : α} {bs : List α} {d : α → Int} (h : ¬ 0 < d b) : one (b :: bs) d = one bs d := by
  unfold one
  have e : opn d b = false := decide_eq_false h
  rw [List.find?_cons, e]
theorem one_cons_yes {b : α} {bs : List α} {d : α → Int} (h : 0 < d b) : one (b :: bs) d = put d b (d b - 1) := by
  unfold one
  have e : opn d b = true := decide_eq_true h
  rw [List.find?_cons, e]
theorem one_some {row : List α} {d : α → Int} {b : α} (h : row.find? (opn d) = some b) : one row d = put d b (d b - 1) := by
  unfold one; rw [h]
theorem one_none {row : List α} {d : α → Int} (h : row.find? (opn d) = none) : one row d = d := by
  unfold one; rw [h]
theorem opn_of {row : List α} {d : α → Int} {b : α} (h : row.find? (opn d) = some b) : 0 < d b := by
  have := List.find?_some h
  unfold opn at this
  exact of_decide_eq_true this
theorem one_at {row : List α} {d : α → Int} {b : α} (h : ¬ 0 < d b) : one row d b = d b := by
  cases e : row.find? (opn d) with
  | none => rw [one_none e]
  | some x =>
    rw [one_some e]
    have hx := opn_of e
    have hne : b ≠ x := fun q => h (q ▸ hx)
    exact put_ne hne

/-- n + 1 coins: one, then n -/
theorem lay_succ : ∀ (row : List α) (d : α → Int) (n : Int), NN d → 0 ≤ n → layD row d (n + 1) = layD row (one row d) n
  | [], d, n, _, _ => rfl
  | b :: bs, d, n, h, hn => by
    have hb := h b
    by_cases c : 0 < d b
    · rw [one_cons_yes c]
      have c1 : 0 < min2 (n + 1) (d b) := by unfold min2; split <;> omega
      unfold layD
      rw [lay_yes c1]
      have e0 : put d b (d b - 1) b = d b - 1 := put_same
      by_cases c2 : 0 < min2 n (put d b (d b - 1) b)
      · rw [lay_yes c2, e0, put_put]
        rw [e0] at c2
        have m : min2 (n + 1) (d b) = min2 n (d b - 1) + 1 := by unfold min2; split <;> split <;> omega
        show (lay bs (put d b (d b - min2 (n + 1) (d b))) (n + 1 - min2 (n + 1) (d b))).2.1 = (lay bs (put d b (d b - 1 - min2 n (d b - 1))) (n - min2 n (d b - 1))).2.1
        rw [m]
        have e1 : d b - (min2 n (d b - 1) + 1) = d b - 1 - min2 n (d b - 1) := by omega
        have e2 : n + 1 - (min2 n (d b - 1) + 1) = n - min2 n (d b - 1) := by omega
        rw [e1, e2]
      · rw [lay_no c2]
        rw [e0] at c2
        have m : min2 (n + 1) (d b) = 1 := by unfold min2 at *; split <;> split at c2 <;> omega
        show (lay bs (put d b (d b - min2 (n + 1) (d b))) (n + 1 - min2 (n + 1) (d b))).2.1 = (lay bs (put d b (d b - 1)) n).2.1
        rw [m]
        have e2 : n + 1 - 1 = n := by omega
        rw [e2]
    · rw [one_cons_no c]
      have c1 : ¬ 0 < min2 (n + 1) (d b) := by unfold min2; split <;> omega
      have e0 : one bs d b = d b := one_at c
      have c2 : ¬ 0 < min2 n (one bs d b) := by rw [e0]; unfold min2; split <;> omega
      unfold layD
      rw [lay_no c1, lay_no c2]
      exact lay_succ bs d n h hn
theorem lay_zero : ∀ (row : List α) (d : α → Int), NN d → lay row d 0 = ([], d, 0)
  | [], _, _ => rfl
  | b :: bs, d, h => by
    have hb := h b
    have c : ¬ 0 < min2 0 (d b) := by unfold min2; split <;> omega
    rw [lay_no c]
    exact lay_zero bs d h

/-! ### coins by two rows -/
def Comp (r1 r2 : List α) : Prop := ∀ (p : α → Bool) (x : α), r1.find? p = some x → r2.find? p = some x → r1.find? (fun y => p y && !decide (y = x)) = r2.find? (fun y => p y && !decide (y = x))
theorem Comp.symm {r1 r2 : List α} (c : Comp r1 r2) : Comp r2 r1 := fun p x h1 h2 => (c p x h2 h1).symm
theorem Comp.refl (r : List α) : Comp r r := fun _ _ _ _ => rfl

theorem find_still {row : List α} {p q : α → Bool} {x : α} (h : row.find? p = some x) (hq : ∀ y, q y = true → p y = true) (hx : q x = true) : row.find? q = some x := by
  induction row with
  | nil => cases h
  | cons b bs ih =>
    rw [List.find?_cons] at h ⊢
    cases hb : p b with
    | true =>
      rw [hb] at h
      cases h
      rw [hx]
    | false =>
      rw [hb] at h
      have : q b = false := by
        cases e : q b with
        | false => rfl
        | true => rw [hq b e] at hb; cases hb
      rw [this]
      exact ih h
theorem find_gone {row : List α} {p q : α → Bool} (h : row.find? p = none) (hq : ∀ y, q y = true → p y = true) : row.find? q = none := by
  rw [List.find?_eq_none] at h ⊢
  exact fun y hy e => h y hy (hq y e)
theorem find_congr {row : List α} {p q : α → Bool} (h : ∀ y, p y = q y) : row.find? p = row.find? q := by
  have : p = q := funext h
  rw [this]

theorem opn_put_ne {d : α → Int} {b : α} (hb : 1 < d b) (y : α) : opn (put d b (d b - 1)) y = opn d y := by
  unfold opn put
  by_cases e : y = b
  · subst e; rw [if_pos rfl]; exact (decide_eq_decide).mpr (by omega)
  · rw [if_neg e]
theorem opn_put_one {d : α → Int} {b : α} (hb : d b = 1) (y : α) : opn (put d b (d b - 1)) y = (opn d y && !decide (y = b)) := by
  unfold opn put
  by_cases e : y = b
  · subst e; rw [if_pos rfl, hb]; simp
  · rw [if_neg e]; simp [e]
theorem opn_put_le {d : α → Int} {b : α} (y : α) (h : opn (put d b (d b - 1)) y = true) : opn d y = true := by
  unfold opn put at *
  by_cases e : y = b
  · subst e; rw [if_pos rfl] at h; have := of_decide_eq_true h; exact decide_eq_true (by omega)
  · rw [if_neg e] at h; exact h

theorem one_comm {r1 r2 : List α} (c : Comp r1 r2) (d : α → Int) : one r1 (one r2 d) = one r2 (one r1 d) := by
  cases h1 : r1.find? (opn d) with
  | none =>
    rw [one_none h1]
    cases h2 : r2.find? (opn d) with
    | none => rw [one_none h2, one_none h1]
    | some b =>
      rw [one_some h2]
      exact one_none (find_gone h1 fun y hy => opn_put_le y hy)
  | some a =>
    rw [one_some h1]
    cases h2 : r2.find? (opn d) with
    | none =>
      rw [one_none h2, one_some h1]
      exact (one_none (find_gone h2 fun y hy => opn_put_le y hy)).symm
    | some b =>
      rw [one_some h2]
      have pa : 0 < d a := opn_of h1
      have pb : 0 < d b := opn_of h2
      by_cases e : a = b
      · subst e
        by_cases g : 1 < d a
        · rw [one_some (row := r1) (d := put d a (d a - 1)) ((find_congr (opn_put_ne g)).trans h1), one_some (row := r2) (d := put d a (d a - 1)) ((find_congr (opn_put_ne g)).trans h2)]
        · have g1 : d a = 1 := by omega
          have k1 := find_congr (row := r1) (opn_put_one g1)
          have k2 := find_congr (row := r2) (opn_put_one g1)
          have k := c (opn d) a h1 h2
          unfold one
          rw [k1, k2, k]
      · have e' : b ≠ a := fun q => e q.symm
        have k1 : r1.find? (opn (put d b (d b - 1))) = some a := find_still h1 (fun y hy => opn_put_le y hy) (by unfold opn; rw [put_ne e]; exact decide_eq_true pa)
        have k2 : r2.find? (opn (put d a (d a - 1))) = some b := find_still h2 (fun y hy => opn_put_le y hy) (by unfold opn; rw [put_ne e']; exact decide_eq_true pb)
        rw [one_some k1, one_some k2, put_ne e, put_ne e']
        exact put_comm e'

/-- n coins -/
def many (row : List α) : Nat → (α → Int) → (α → Int)
  | 0, d => d
  | n + 1, d => many row n (one row d)
theorem layD_many (row : List α) : ∀ (n : Nat) (d : α → Int), NN d → layD row d (n : Int) = many row n d
  | 0, d, h => by
    show (lay row d 0).2.1 = d
    rw [lay_zero row d h]
  | n + 1, d, h => by
    have e : ((n + 1 : Nat) : Int) = (n : Int) + 1 := by omega
    rw [e, lay_succ row d n h (by omega)]
    exact layD_many row n _ (one_nn h)
theorem many_nn {row : List α} : ∀ (n : Nat) (d : α → Int), NN d → NN (many row n d)
  | 0, _, h => h
  | n + 1, d, h => many_nn n _ (one_nn h)
theorem many_one {r1 r2 : List α} (c : Comp r1 r2) : ∀ (n : Nat) (d : α → Int), many r1 n (one r2 d) = one r2 (many r1 n d)
  | 0, _ => rfl
  | n + 1, d => by
    show many r1 n (one r1 (one r2 d)) = one r2 (many r1 n (one r1 d))
    rw [one_comm c, many_one c n]
theorem many_comm {r1 r2 : List α} (c : Comp r1 r2) (n : Nat) : ∀ (m : Nat) (d : α → Int), many r1 n (many r2 m d) = many r2 m (many r1 n d)
  | 0, _ => rfl
  | m + 1, d => by
    show many r1 n (many r2 m (one r2 d)) = many r2 m (one r2 (many r1 n d))
    rw [many_comm c n m, many_one c n]
theorem many_add (row : List α) (m : Nat) : ∀ (n : Nat) (d : α → Int), many row m (many row n d) = many row (n + m) d
  | 0, d => by rw [Nat.zero_add]; rfl
  | n + 1, d => by
    have e : n + 1 + m = (n + m) + 1 := by omega
    rw [e]
    exact many_add row m n (one row d)

theorem nat_of {r : Int} (h : 0 ≤ r) : ∃ n : Nat, r = (n : Int) := ⟨r.toNat, by omega⟩
/-- amounts laid by rows that agree, in either order -/
theorem lay_comm {r1 r2 : List α} (c : Comp r1 r2) {d : α → Int} {a b : Int} (h : NN d) (ha : 0 ≤ a) (hb : 0 ≤ b) : layD r1 (layD r2 d b) a = layD r2 (layD r1 d a) b := by
  obtain ⟨n, rfl⟩ := nat_of ha
  obtain ⟨m, rfl⟩ := nat_of hb
  rw [layD_many r2 m d h, layD_many r1 n d h, layD_many r1 n _ (many_nn m d h), layD_many r2 m _ (many_nn n d h)]
  exact many_comm c n m d
theorem lay_add {row : List α} {d : α → Int} {a b : Int} (h : NN d) (ha : 0 ≤ a) (hb : 0 ≤ b) : layD row (layD row d a) b = layD row d (a + b) := by
  obtain ⟨n, rfl⟩ := nat_of ha
  obtain ⟨m, rfl⟩ := nat_of hb
  have e : (n : Int) + (m : Int) = ((n + m : Nat) : Int) := by omega
  rw [e, layD_many row n d h, layD_many row m _ (many_nn n d h), layD_many row (n + m) d h]
  exact many_add row m n d

/-! ### rows that agree -/
theorem comp_rot {a b : List α} (hd : ∀ x, x ∈ a → x ∈ b → False) : Comp (a ++ b) (b ++ a) := by
  intro p x h1 h2
  rw [List.find?_append] at h1 h2 ⊢
  rw [List.find?_append]
  have le : ∀ y, (fun y => p y && !decide (y = x)) y = true → p y = true := fun y hy => by
    have : (p y && !decide (y = x)) = true := hy
    rw [Bool.and_eq_true] at this
    exact this.1
  cases ea : a.find? p with
  | none =>
    have ga := find_gone ea le
    rw [ga]
    simp
  | some y =>
    cases eb : b.find? p with
    | none =>
      have gb := find_gone eb le
      rw [gb]
      simp
    | some z =>
      rw [ea] at h1
      rw [eb] at h2
      simp at h1 h2
      exact (hd x (h1 ▸ List.mem_of_find?_eq_some ea) (h2 ▸ List.mem_of_find?_eq_some eb)).elim
theorem comp_suffix {a b : List α} (hd : ∀ x, x ∈ a → x ∈ b → False) : Comp (a ++ b) b := by
  intro p x h1 h2
  rw [List.find?_append] at h1 ⊢
  have le : ∀ y, (fun y => p y && !decide (y = x)) y = true → p y = true := fun y hy => by
    have : (p y && !decide (y = x)) = true := hy
    rw [Bool.and_eq_true] at this
    exact this.1
  cases ea : a.find? p with
  | none =>
    have ga := find_gone ea le
    rw [ga]
    simp
  | some y =>
    rw [ea] at h1
    simp at h1
    exact (hd x (h1 ▸ List.mem_of_find?_eq_some ea) (List.mem_of_find?_eq_some h2)).elim
theorem comp_nil (r : List α) : Comp r [] := fun p x _ h2 => by simp at h2
theorem find_rev_all {p : α → Bool} {x : α} : ∀ {r : List α}, r.Nodup → r.find? p = some x → r.reverse.find? p = some x → ∀ y ∈ r, p y = true → y = x
  | [], _, h, _ => by cases h
  | b :: bs, nd, h1, h2 => by
    rw [List.reverse_cons, List.find?_append] at h2
    rw [List.find?_cons] at h1
    have nd' := List.nodup_cons.mp nd
    cases hb : p b with
    | true =>
      rw [hb] at h1
      cases h1
      intro y hy py
      rcases List.mem_cons.mp hy with e | e
      · exact e
      · exfalso
        cases er : bs.reverse.find? p with
        | none =>
          rw [List.find?_eq_none] at er
          exact er y (List.mem_reverse.mpr e) py
        | some z =>
          rw [er] at h2
          simp at h2
          rw [h2] at er
          exact nd'.1 (List.mem_reverse.mp (List.mem_of_find?_eq_some er))
    | false =>
      rw [hb] at h1
      have h3 : bs.reverse.find? p = some x := by
        cases er : bs.reverse.find? p with
        | none =>
          rw [er] at h2
          simp [List.find?_cons, hb] at h2
        | some z =>
          rw [er] at h2
          simpa using h2
      intro y hy py
      rcases List.mem_cons.mp hy with e | e
      · rw [e, hb] at py; cases py
      · exact find_rev_all nd'.2 h1 h3 y e py
theorem comp_rev {r : List α} (nd : r.Nodup) : Comp r r.reverse := by
  intro p x h1 h2
  have all := find_rev_all nd h1 h2
  have e1 : r.find? (fun y => p y && !decide (y = x)) = none := by
    rw [List.find?_eq_none]
    intro y hy e
    rw [Bool.and_eq_true] at e
    have := all y hy e.1
    rw [this] at e
    simp at e
  have e2 : r.reverse.find? (fun y => p y && !decide (y = x)) = none := by
    rw [List.find?_eq_none] at e1 ⊢
    exact fun y hy => e1 y (List.mem_reverse.mp hy)
  rw [e1, e2]
end
end Ol
set_option Elab.async false
set_option linter.all false
set_option maxRecDepth 100000
set_option maxHeartbeats 2000000
/-! OlBase: what evaluates to which data, with frames: H the known heap, H1 the heap as it is (more may stand there), H' the known heap behind, H2 the heap as it is behind. -/
namespace Ol
open PySem L2
open Evl (Ex Ex.refl Ex.trans Ex.new ex_l ex_t fresh_back sz_of sz_lt)

def Up (H H1 H' H2 : Hp) : Prop := Ex H H' ∧ Ex H' H2 ∧ Ex H1 H2 ∧ ∀ a, H a = none → H1 a ≠ none → H' a = none
theorem Up.refl {H H1 : Hp} (e : Ex H H1) : Up H H1 H H1 := ⟨Ex.refl H, e, Ex.refl H1, fun _ h _ => h⟩
theorem some_ne {H : Hp} {a : Addr} {o : HO} (h : H a = some o) : H a ≠ none := by rw [h]; exact fun q => nomatch q
theorem ex_ne {H H' : Hp} {a : Addr} (e : Ex H H') (h : H a ≠ none) : H' a ≠ none := by
  cases q : H a with
  | none => exact absurd q h
  | some o => exact some_ne (e a o q)
theorem Up.trans {H H1 Hb Ha H' H2 : Hp} (u : Up H H1 Hb Ha) (w : Up Hb Ha H' H2) : Up H H1 H' H2 :=
  ⟨u.1.trans w.1, w.2.1, u.2.2.1.trans w.2.2.1, fun a h h1 => w.2.2.2 a (u.2.2.2 a h h1) (ex_ne u.2.2.1 h1)⟩
theorem Up.new {H H1 : Hp} {p : Addr} {o : HO} (e : Ex H H1) (hp : H1 p = none) : Up H H1 (upd H p o) (upd H1 p o) := by
  refine ⟨Ex.new (fresh_back e hp), fun a u h => ?_, Ex.new hp, fun a h h1 => ?_⟩
  · by_cases q : a = p
    · subst q; rw [upd_same] at h ⊢; exact h
    · rw [upd_ne q] at h ⊢; exact e a u h
  · have q : a ≠ p := fun q => h1 (q ▸ hp)
    rw [upd_ne q]; exact h
/-- a new object, not told to the known heap -/
theorem Up.newM {H H1 : Hp} {p : Addr} {o : HO} (e : Ex H H1) (hp : H1 p = none) : Up H H1 H (upd H1 p o) :=
  ⟨Ex.refl H, e.trans (Ex.new hp), Ex.new hp, fun _ h _ => h⟩
/-- an object of ours is told to the known heap -/
theorem Up.freeze {H H1 H' H2 : Hp} {p : Addr} {o : HO} (u : Up H H1 H' H2) (h1 : H1 p = none) (h2 : H2 p = some o) : Up H H1 (upd H' p o) H2 := by
  have e : Ex H' (upd H' p o) := fun a v h => by
    by_cases q : a = p
    · subst q; rw [upd_same]; have := u.2.1 a v h; rw [h2] at this; exact this
    · rw [upd_ne q]; exact h
  refine ⟨u.1.trans e, fun a v h => ?_, u.2.2.1, fun a h h3 => ?_⟩
  · by_cases q : a = p
    · subst q; rw [upd_same] at h; rw [h2]; exact h
    · rw [upd_ne q] at h; exact u.2.1 a v h
  · have q : a ≠ p := fun q => h3 (q ▸ h1)
    rw [upd_ne q]; exact u.2.2.2 a h h3
theorem Up.exF {H H1 H' H2 : Hp} {p : Addr} {o : HO} (u : Up H H1 H' H2) (h2 : H2 p = some o) : Ex H' (upd H' p o) := fun a v h => by
    by_cases q : a = p
    · subst q; rw [upd_same]; have := u.2.1 a v h; rw [h2] at this; exact this
    · rw [upd_ne q]; exact h
/-- an object of ours, not known, is changed -/
theorem Up.mut {H H1 H' H2 : Hp} {p : Addr} {o : HO} (u : Up H H1 H' H2) (h1 : H1 p = none) (h' : H' p = none) : Up H H1 H' (upd H2 p o) := by
  refine ⟨u.1, fun a v h => ?_, fun a v h => ?_, u.2.2.2⟩
  · rw [upd_ne (ne_of_none h h')]; exact u.2.1 a v h
  · rw [upd_ne (ne_of_none h h1)]; exact u.2.2.1 a v h
theorem Up.ex {H H1 H' H2 : Hp} (u : Up H H1 H' H2) : Ex H H' := u.1
theorem Up.of {H H1 H' H2 : Hp} (u : Up H H1 H' H2) : Ex H' H2 := u.2.1
theorem Up.at {H H1 H' H2 : Hp} (u : Up H H1 H' H2) {a : Addr} {o : HO} (h : H1 a = some o) : H2 a = some o := u.2.2.1 a o h
theorem Up.off {H H1 H' H2 : Hp} (u : Up H H1 H' H2) {a : Addr} (h : H a = none) (h1 : H1 a ≠ none) : H' a = none := u.2.2.2 a h h1
theorem Up.fresh {H H1 H' H2 : Hp} (u : Up H H1 H' H2) {a : Addr} (h : H2 a = none) : H1 a = none := fresh_back u.2.2.1 h

/-- the join of two heaps -/
def join (H H' : Hp) : Hp := fun a => match H a with
  | some o => some o
  | none => H' a
theorem join_l {H H' : Hp} : Ex H (join H H') := fun a o h => by unfold join; rw [h]
theorem join_r {H H' H2 : Hp} (e : Ex H H2) (e' : Ex H' H2) : Ex H' (join H H') := fun a o h => by
  unfold join
  cases q : H a with
  | none => exact h
  | some v =>
    have a1 := e a v q
    have a2 := e' a o h
    rw [a1] at a2
    exact a2
theorem join_of {H H' H2 : Hp} (e : Ex H H2) (e' : Ex H' H2) : Ex (join H H') H2 := fun a o h => by
  unfold join at h
  cases q : H a with
  | none => rw [q] at h; exact e' a o h
  | some v => rw [q] at h; exact (e a v q).trans h
theorem join_none {H H' : Hp} {a : Addr} (h : H a = none) (h' : H' a = none) : join H H' a = none := by unfold join; rw [h]; exact h'
/-- from a smaller known heap -/
theorem Up.widen {H Hb H1 H' H2 : Hp} (e : Ex H Hb) (e1 : Ex Hb H1) (u : Up H H1 H' H2) : Up Hb H1 (join Hb H') H2 ∧ Ex H' (join Hb H') := by
  have e2 : Ex Hb H2 := e1.trans u.2.2.1
  refine ⟨⟨join_l, join_of e2 u.of, u.2.2.1, fun a h h1 => join_none h (u.off ?_ h1)⟩, join_r e2 u.of⟩
  exact fresh_back e h

/-! ### data -/
abbrev Pd := V → Hp → Prop
class Mo (P : Pd) : Prop where
  up : ∀ {a : V} {H H' : Hp}, Ex H H' → P a H → P a H'
mutual
theorem dp_ex {K : PySem.W.Frag} {H H' : Hp} (e : Ex H H') : ∀ {v : V} {d : PyData}, Dp K H v d → Dp K H' v d
  | _, _, .non => .non
  | _, _, .bl b => .bl b
  | _, _, .int i => .int i
  | _, _, .str x => .str x
  | _, _, .lst h a => .lst (ex_l e h) (dpa_ex e a)
  | _, _, .tup h a => .tup (ex_t e h) (dpa_ex e a)
theorem dpa_ex {K : PySem.W.Frag} {H H' : Hp} (e : Ex H H') : ∀ {vs : List V} {ds : List PyData}, DpAll K H vs ds → DpAll K H' vs ds
  | _, _, .nil => .nil
  | _, _, .cons h a => .cons (dp_ex e h) (dpa_ex e a)
end
def D (K : PySem.W.Frag) (d : PyData) : Pd := fun v H => Dp K H v d
def Xv (v : V) : Pd := fun x _ => x = v
instance {K : PySem.W.Frag} {d : PyData} : Mo (D K d) := ⟨fun e h => dp_ex e h⟩
instance {v : V} : Mo (Xv v) := ⟨fun _ h => h⟩

section
variable {K : PySem.W.Frag} {H : Hp} {v : V}
theorem dp_int {i : Int} (h : Dp K H v (.int i)) : v = .int i := by cases h; rfl
theorem dp_str {x : Str} (h : Dp K H v (.str x)) : v = .str x := by cases h; rfl
theorem dp_bl {b : Bool} (h : Dp K H v (.bool b)) : v = .bl b := by cases h; rfl
theorem dp_non (h : Dp K H v .none) : v = .non := by cases h; rfl
theorem dp_lst {ds : List PyData} (h : Dp K H v (.list ds)) : ∃ a xs, v = .ref a ∧ SqL K H a xs ∧ DpAll K H xs ds := by cases h; exact ⟨_, _, rfl, by assumption, by assumption⟩
theorem dp_tup {ds : List PyData} (h : Dp K H v (.tuple ds)) : ∃ a xs, v = .ref a ∧ SqT K H a xs ∧ DpAll K H xs ds := by cases h; exact ⟨_, _, rfl, by assumption, by assumption⟩
theorem _root_.L2.DpAll.len : ∀ {xs : List V} {ds : List PyData}, DpAll K H xs ds → xs.length = ds.length
  | _, _, .nil => rfl
  | _, _, .cons _ a => congrArg (· + 1) a.len
theorem _root_.L2.DpAll.get : ∀ {xs : List V} {ds : List PyData} {i : Nat} {d : PyData}, DpAll K H xs ds → ds[i]? = some d → ∃ x, xs[i]? = some x ∧ Dp K H x d
  | _, _, _, _, .nil, e => by simp at e
  | _, _, 0, _, .cons h _, e => by simp at e; subst e; exact ⟨_, rfl, h⟩
  | _, _, i + 1, _, .cons _ a, e => by
    obtain ⟨x, h1, h2⟩ := a.get (i := i) (by simpa using e)
    exact ⟨x, by simpa using h1, h2⟩
theorem _root_.L2.DpAll.got : ∀ {xs : List V} {ds : List PyData} {i : Nat} {x : V}, DpAll K H xs ds → xs[i]? = some x → ∃ d, ds[i]? = some d ∧ Dp K H x d
  | _, _, _, _, .nil, e => by simp at e
  | _, _, 0, _, .cons h _, e => by simp at e; subst e; exact ⟨_, rfl, h⟩
  | _, _, i + 1, _, .cons _ a, e => by
    obtain ⟨x, h1, h2⟩ := a.got (i := i) (by simpa using e)
    exact ⟨x, by simpa using h1, h2⟩
theorem _root_.L2.DpAll.app : ∀ {xs ys : List V} {ds es : List PyData}, DpAll K H xs ds → DpAll K H ys es → DpAll K H (xs ++ ys) (ds ++ es)
  | _, _, _, _, .nil, b => b
  | _, _, _, _, .cons h a, b => .cons h (a.app b)
theorem _root_.L2.DpAll.ints : ∀ {ns : List Int} {xs : List V}, DpAll K H xs (ns.map PyData.int) → xs = ns.map V.int
  | [], _, .nil => rfl
  | n :: ns, _, .cons h a => by rw [dp_int h, a.ints]; rfl
theorem _root_.L2.DpAll.strs : ∀ {ns : List Str} {xs : List V}, DpAll K H xs (ns.map PyData.str) → xs = ns.map V.str
  | [], _, .nil => rfl
  | n :: ns, _, .cons h a => by rw [dp_str h, a.strs]; rfl
theorem _root_.L2.DpAll.bls : ∀ {ns : List Bool} {xs : List V}, DpAll K H xs (ns.map PyData.bool) → xs = ns.map V.bl
  | [], _, .nil => rfl
  | n :: ns, _, .cons h a => by rw [dp_bl h, a.bls]; rfl
theorem dpa_ints : ∀ ns : List Int, DpAll K H (ns.map V.int) (ns.map PyData.int)
  | [] => .nil
  | n :: ns => .cons (.int n) (dpa_ints ns)
theorem dpa_strs : ∀ ns : List Str, DpAll K H (ns.map V.str) (ns.map PyData.str)
  | [] => .nil
  | n :: ns => .cons (.str n) (dpa_strs ns)
end

def PAll : List V → List Pd → Hp → Prop
  | [], [], _ => True
  | v :: vs, P :: Ps, H => P v H ∧ PAll vs Ps H
  | _, _, _ => False
class MoL (Ps : List Pd) : Prop where
  up : ∀ {vs : List V} {H H' : Hp}, Ex H H' → PAll vs Ps H → PAll vs Ps H'
instance : MoL [] := ⟨fun {vs} _ _ e h => by cases vs with | nil => exact trivial | cons => exact h.elim⟩
instance {P : Pd} {Ps : List Pd} [m : Mo P] [n : MoL Ps] : MoL (P :: Ps) := ⟨fun {vs} _ _ e h => by
  cases vs with
  | nil => exact h.elim
  | cons v vs => exact ⟨m.up e h.1, n.up e h.2⟩⟩
theorem PAll.d {K : PySem.W.Frag} {H : Hp} : ∀ {vs : List V} {ds : List PyData}, PAll vs (ds.map (D K)) H ↔ DpAll K H vs ds
  | [], [] => ⟨fun _ => .nil, fun _ => trivial⟩
  | v :: vs, d :: ds => ⟨fun h => .cons h.1 (PAll.d.mp h.2), fun h => by cases h; exact ⟨by assumption, PAll.d.mpr (by assumption)⟩⟩
  | [], d :: ds => ⟨fun h => h.elim, fun h => by cases h⟩
  | v :: vs, [] => ⟨fun h => h.elim, fun h => by cases h⟩
theorem PAll.app {H : Hp} : ∀ {vs ws : List V} {Ps Rs : List Pd}, PAll vs Ps H → PAll ws Rs H → PAll (vs ++ ws) (Ps ++ Rs) H
  | [], _, [], _, _, h => h
  | v :: vs, _, P :: Ps, _, h, h' => ⟨h.1, PAll.app h.2 h'⟩
  | [], _, _ :: _, _, h, _ => h.elim
  | _ :: _, _, [], _, h, _ => h.elim
theorem PAll.one {P : Pd} {vs : List V} {H : Hp} (h : PAll vs [P] H) : ∃ v, vs = [v] ∧ P v H := by
  match vs, h with
  | [v], h => exact ⟨v, rfl, h.1⟩
  | [], h => exact h.elim
  | _ :: _ :: _, h => exact h.2.elim
theorem PAll.two {P R : Pd} {vs : List V} {H : Hp} (h : PAll vs [P, R] H) : ∃ v w, vs = [v, w] ∧ P v H ∧ R w H := by
  match vs, h with
  | v :: vs, h =>
    obtain ⟨w, rfl, hw⟩ := PAll.one h.2
    exact ⟨v, w, rfl, h.1, hw⟩
  | [], h => exact h.elim
theorem PAll.three {P R S : Pd} {vs : List V} {H : Hp} (h : PAll vs [P, R, S] H) : ∃ v w x, vs = [v, w, x] ∧ P v H ∧ R w H ∧ S x H := by
  match vs, h with
  | v :: vs, h =>
    obtain ⟨w, x, rfl, hw, hx⟩ := PAll.two h.2
    exact ⟨v, w, x, rfl, h.1, hw, hx⟩
  | [], h => exact h.elim
theorem PAll.four {P R S T : Pd} {vs : List V} {H : Hp} (h : PAll vs [P, R, S, T] H) : ∃ v w x y, vs = [v, w, x, y] ∧ P v H ∧ R w H ∧ S x H ∧ T y H := by
  match vs, h with
  | v :: vs, h =>
    obtain ⟨w, x, y, rfl, hw, hx, hy⟩ := PAll.three h.2
    exact ⟨v, w, x, y, rfl, h.1, hw, hx, hy⟩
  | [], h => exact h.elim

/-! ### what evaluates -/
/-- a continuation for a value that satisfies P -/
def KQ (H H1 : Hp) (P : Pd) (Q : VK) : Prop := ∀ v H' H2, Up H H1 H' H2 → P v H' → Q v H2
/-- .. for a new object that the known heap need not know -/
def KF (H H1 : Hp) (P : HO → Hp → Prop) (Q : VK) : Prop := ∀ p o H' H2, Up H H1 H' H2 → H1 p = none → H' p = none → H2 p = some o → P o H' → Q (.ref p) H2
def Vl (te : TE) (σ : L2.St) (H : Hp) (P : Pd) : Prop := ∀ H1, Ex H H1 → ∀ Q : VK, KQ H H1 P Q → te σ H1 Q
def Vf (te : TE) (σ : L2.St) (H : Hp) (P : HO → Hp → Prop) : Prop := ∀ H1, Ex H H1 → ∀ Q : VK, KF H H1 P Q → te σ H1 Q
def As (ta : TA) (σ : L2.St) (H : Hp) (Ps : List Pd) : Prop := ∀ H1, Ex H H1 → ∀ Q : List V → Hp → Prop, (∀ vs H' H2, Up H H1 H' H2 → PAll vs Ps H' → Q vs H2) → ta σ H1 Q
def Bt (tt : TT) (σ : L2.St) (H : Hp) (b : Bool) : Prop := ∀ H1, Ex H H1 → ∀ Q : Bool → Hp → Prop, (∀ H2, Ex H1 H2 → Q b H2) → tt σ H1 Q
def Os (to : TO) (σ : L2.St) (H : Hp) (o : Option Int) : Prop := ∀ H1, Ex H H1 → ∀ Q : Option Int → Hp → Prop, (∀ H2, Ex H1 H2 → Q o H2) → to σ H1 Q
/-- operations and calls on values -/
def Rv (r : R2) (x y : V) (H : Hp) (P : Pd) : Prop := ∀ H1, Ex H H1 → ∀ Q : VK, KQ H H1 P Q → r x y H1 Q
def Rf (r : R2) (x y : V) (H : Hp) (P : HO → Hp → Prop) : Prop := ∀ H1, Ex H H1 → ∀ Q : VK, KF H H1 P Q → r x y H1 Q
def Rc (r : List V → Hp → VK → Prop) (vs : List V) (H : Hp) (P : Pd) : Prop := ∀ H1, Ex H H1 → ∀ Q : VK, KQ H H1 P Q → r vs H1 Q
def Rcf (r : List V → Hp → VK → Prop) (vs : List V) (H : Hp) (P : HO → Hp → Prop) : Prop := ∀ H1, Ex H H1 → ∀ Q : VK, KF H H1 P Q → r vs H1 Q
def Sv (sp : Sp) (vs : List V) (H : Hp) (P : Pd) : Prop := ∀ H1, Ex H H1 → ∀ Q : VK, KQ H H1 P Q → ∀ E : XK, sp vs H1 Q E
def Sf (sp : Sp) (vs : List V) (H : Hp) (P : HO → Hp → Prop) : Prop := ∀ H1, Ex H H1 → ∀ Q : VK, KF H H1 P Q → ∀ E : XK, sp vs H1 Q E

class MoF (P : HO → Hp → Prop) : Prop where
  up : ∀ {o : HO} {H H' : Hp}, Ex H H' → P o H → P o H'
section
variable {K : PySem.W.Frag} {σ : L2.St} {H H' : Hp} {ta tb te tx : TE} {t u : TT} {x y z v : V} {r : R2} {P P1 P2 : Pd}
theorem KQ.same {Q : VK} {H1 : Hp} (k : KQ H H1 P Q) (e : Ex H H1) (h : P v H) : Q v H1 := k v H H1 (Up.refl e) h
theorem KQ.then {Q : VK} {H1 Hb Ha : Hp} (k : KQ H H1 P Q) (u : Up H H1 Hb Ha) : KQ Hb Ha P Q := fun v H' H2 w p => k v H' H2 (u.trans w) p
theorem KF.then {Q : VK} {H1 Hb Ha : Hp} {P : HO → Hp → Prop} (k : KF H H1 P Q) (u : Up H H1 Hb Ha) : KF Hb Ha P Q := fun p o H' H2 w h1 h' h2 q => k p o H' H2 (u.trans w) (u.fresh h1) h' h2 q
/-- the new object is told -/
def ofF (P : HO → Hp → Prop) : Pd := fun v H => ∃ p o, v = .ref p ∧ H p = some o ∧ P o H
theorem KQ.f {Q : VK} {H1 : Hp} {P : HO → Hp → Prop} [m : MoF P] (k : KQ H H1 (ofF P) Q) : KF H H1 P Q := fun p o H' H2 u h1 _ h2 q =>
  k (.ref p) (upd H' p o) H2 (u.freeze h1 h2) ⟨p, o, rfl, upd_same, m.up (u.exF h2) q⟩
theorem KQ.imp {Q : VK} {H1 : Hp} (k : KQ H H1 P Q) (h : ∀ v H', P1 v H' → P v H') : KQ H H1 P1 Q := fun v H' H2 u p => k v H' H2 u (h v H' p)
theorem KF.imp {Q : VK} {H1 : Hp} {P P' : HO → Hp → Prop} (k : KF H H1 P Q) (h : ∀ o H', P' o H' → P o H') : KF H H1 P' Q := fun p o H' H2 u h1 h2 h3 q => k p o H' H2 u h1 h2 h3 (h o H' q)
theorem Vl.imp (h : Vl te σ H P1) (i : ∀ v H', P1 v H' → P v H') : Vl te σ H P := fun H1 e Q k => h H1 e Q (k.imp i)
theorem Vf.vl {P : HO → Hp → Prop} [MoF P] (h : Vf te σ H P) : Vl te σ H (ofF P) := fun H1 e Q k => h H1 e Q k.f
theorem Vl.mono [m : Mo P] (e : Ex H H') (h : Vl te σ H P) : Vl te σ H' P := fun H1 a Q q => h H1 (e.trans a) Q fun v Hx H2 u p =>
  have w := Up.widen e a u
  q v _ H2 w.1 (m.up w.2 p)
theorem As.mono {ta : TA} {Ps : List Pd} [m : MoL Ps] (e : Ex H H') (h : As ta σ H Ps) : As ta σ H' Ps := fun H1 a Q q => h H1 (e.trans a) Q fun vs Hx H2 u p =>
  have w := Up.widen e a u
  q vs _ H2 w.1 (m.up w.2 p)
theorem Bt.mono {b : Bool} (e : Ex H H') (h : Bt t σ H b) : Bt t σ H' b := fun H1 a Q q => h H1 (e.trans a) Q q
theorem Os.mono {to : TO} {o : Option Int} (e : Ex H H') (h : Os to σ H o) : Os to σ H' o := fun H1 a Q q => h H1 (e.trans a) Q q

theorem vl_var {i : Nat} (h : σ[i]? = some (some v)) (p : P v H) : Vl (tVar i) σ H P := fun H1 e _ q => ⟨v, h, q.same e p⟩
theorem vl_c (p : P v H) : Vl (tC v) σ H P := fun H1 e _ q => q.same e p
theorem vl_op [m1 : Mo P1] (ha : Vl ta σ H P1) (hb : ∀ H', Ex H H' → Vl tb σ H' P2) (hr : ∀ x y H', Ex H H' → P1 x H' → P2 y H' → Rv r x y H' P) : Vl (tOp r ta tb) σ H P := fun H1 e Q q =>
  ha H1 e _ fun x Hb Ha u p1 => hb Hb u.ex Ha u.of _ fun y Hc Hd w p2 => hr x y Hc (u.ex.trans w.ex) (m1.up w.ex p1) p2 Hd w.of Q (q.then (u.trans w))
theorem vf_op {P : HO → Hp → Prop} [m1 : Mo P1] (ha : Vl ta σ H P1) (hb : ∀ H', Ex H H' → Vl tb σ H' P2) (hr : ∀ x y H', Ex H H' → P1 x H' → P2 y H' → Rf r x y H' P) : Vf (tOp r ta tb) σ H P := fun H1 e Q q =>
  ha H1 e _ fun x Hb Ha u p1 => hb Hb u.ex Ha u.of _ fun y Hc Hd w p2 => hr x y Hc (u.ex.trans w.ex) (m1.up w.ex p1) p2 Hd w.of Q (q.then (u.trans w))
theorem vl_un {r : V → Hp → VK → Prop} (ha : Vl ta σ H P1) (hr : ∀ x H', Ex H H' → P1 x H' → ∀ H1, Ex H' H1 → ∀ Q : VK, KQ H' H1 P Q → r x H1 Q) : Vl (tUn r ta) σ H P := fun H1 e Q q =>
  ha H1 e _ fun x Hb Ha u p1 => hr x Hb u.ex p1 Ha u.of Q (q.then u)
theorem as_nil : As tNil σ H [] := fun H1 e _ q => q [] H H1 (Up.refl e) trivial
theorem as_cons {tr : TA} {Ps : List Pd} [m1 : Mo P1] (h : Vl ta σ H P1) (hr : ∀ H', Ex H H' → As tr σ H' Ps) : As (tCons ta tr) σ H (P1 :: Ps) := fun H1 e Q q =>
  h H1 e _ fun x Hb Ha u p1 => hr Hb u.ex Ha u.of _ fun vs Hc Hd w p2 => q (x :: vs) Hc Hd (u.trans w) ⟨m1.up w.ex p1, p2⟩
theorem as_c {tr : TA} {Ps : List Pd} [m1 : Mo P1] [MoL Ps] (h : Vl ta σ H P1) (hr : As tr σ H Ps) : As (tCons ta tr) σ H (P1 :: Ps) := as_cons h fun _ e => hr.mono e
theorem as_1 [Mo P1] (h : Vl ta σ H P1) : As (tCons ta tNil) σ H [P1] := as_c h as_nil
theorem vl_cb {r : List V → Hp → VK → Prop} {ta : TA} {Ps : List Pd} (h : As ta σ H Ps) (hr : ∀ vs H', Ex H H' → PAll vs Ps H' → Rc r vs H' P) : Vl (tCB r ta) σ H P := fun H1 e Q q =>
  h H1 e _ fun vs Hb Ha u p => hr vs Hb u.ex p Ha u.of Q (q.then u)
theorem vf_cb {r : List V → Hp → VK → Prop} {ta : TA} {Ps : List Pd} {P : HO → Hp → Prop} (h : As ta σ H Ps) (hr : ∀ vs H', Ex H H' → PAll vs Ps H' → Rcf r vs H' P) : Vf (tCB r ta) σ H P := fun H1 e Q q =>
  h H1 e _ fun vs Hb Ha u p => hr vs Hb u.ex p Ha u.of Q (q.then u)
theorem vl_call {sp : Sp} {dvs : List V} {E : XK} {ta : TA} {Ps : List Pd} (h : As ta σ H Ps) (hr : ∀ vs H', Ex H H' → PAll vs Ps H' → Sv sp (vs ++ dvs) H' P) : Vl (tCall sp dvs E ta) σ H P := fun H1 e Q q =>
  h H1 e _ fun vs Hb Ha u p => hr vs Hb u.ex p Ha u.of Q (q.then u) E
theorem vf_call {sp : Sp} {dvs : List V} {E : XK} {ta : TA} {Ps : List Pd} {P : HO → Hp → Prop} (h : As ta σ H Ps) (hr : ∀ vs H', Ex H H' → PAll vs Ps H' → Sf sp (vs ++ dvs) H' P) : Vf (tCall sp dvs E ta) σ H P := fun H1 e Q q =>
  h H1 e _ fun vs Hb Ha u p => hr vs Hb u.ex p Ha u.of Q (q.then u) E
theorem bt_test {b : Bool} (h : Vl te σ H (D K (.bool b))) : Bt (tTest te) σ H b := fun H1 e _ q => h H1 e _ fun v H' H2 u p => ⟨b, dp_bl p, q H2 u.2.2.1⟩
theorem bt_B {b : Bool} (h : Vl te σ H (D K (.bool b))) : Bt (tB te) σ H b := fun H1 e _ q => h H1 e _ fun v H' H2 u p => ⟨b, dp_bl p, q H2 u.2.2.1⟩
theorem bt_and {a b : Bool} (h1 : Bt t σ H a) (h2 : a = true → Bt u σ H b) : Bt (tAnd t u) σ H (a && b) := fun H1 e Q q => h1 H1 e _ fun H2 e2 => by
  cases a with
  | true =>
    show u σ H2 Q
    exact h2 rfl H2 (e.trans e2) Q fun H3 e3 => q H3 (e2.trans e3)
  | false =>
    show Q false H2
    exact q H2 e2
theorem bt_or {a b : Bool} (h1 : Bt t σ H a) (h2 : a = false → Bt u σ H b) : Bt (tOr t u) σ H (a || b) := fun H1 e Q q => h1 H1 e _ fun H2 e2 => by
  cases a with
  | true =>
    show Q true H2
    exact q H2 e2
  | false =>
    show u σ H2 Q
    exact h2 rfl H2 (e.trans e2) Q fun H3 e3 => q H3 (e2.trans e3)
theorem bt_not {a : Bool} (h1 : Bt t σ H a) : Bt (tNot t) σ H (!a) := fun H1 e _ q => h1 H1 e _ fun H2 e2 => q H2 e2
theorem bt_is {a b : Bool} (h : Bt t σ H a) (e : a = b) : Bt t σ H b := by
  rw [← e]
  exact h
theorem vl_if {b : Bool} (h : Bt t σ H b) (h1 : b = true → Vl ta σ H P) (h2 : b = false → Vl tb σ H P) : Vl (tIf t ta tb) σ H P := fun H1 e Q q => h H1 e _ fun H2 e2 => by
  have w : ∀ (H' H3 : Hp), Up H H2 H' H3 → Up H H1 H' H3 := fun H' H3 u => ⟨u.1, u.2.1, e2.trans u.2.2.1, fun a h h' => u.2.2.2 a h (ex_ne e2 h')⟩
  cases b with
  | true =>
    show ta σ H2 Q
    exact h1 rfl H2 (e.trans e2) Q fun v H' H3 u p => q v H' H3 (w H' H3 u) p
  | false =>
    show tb σ H2 Q
    exact h2 rfl H2 (e.trans e2) Q fun v H' H3 u p => q v H' H3 (w H' H3 u) p
theorem Up.pre {H1 H2 H' H3 : Hp} (e : Ex H1 H2) (u : Up H H2 H' H3) : Up H H1 H' H3 := ⟨u.1, u.2.1, e.trans u.2.2.1, fun a h h' => u.2.2.2 a h (ex_ne e h')⟩
theorem vl_andV {a b : Bool} (h1 : Vl ta σ H (D K (.bool a))) (h2 : a = true → Vl tb σ H (D K (.bool b))) : Vl (tAndV ta tb) σ H (D K (.bool (a && b))) := fun H1 e Q q => h1 H1 e _ fun v H' H2 u p => ⟨a, dp_bl p, by
  cases a with
  | true =>
    show tb σ H2 Q
    exact h2 rfl H2 (e.trans u.2.2.1) Q fun w Hx H3 y p' => q w Hx H3 (y.pre u.2.2.1) p'
  | false =>
    show Q (.bl false) H2
    exact q _ H' H2 u (.bl false)⟩
theorem vl_orV {a b : Bool} (h1 : Vl ta σ H (D K (.bool a))) (h2 : a = false → Vl tb σ H (D K (.bool b))) : Vl (tOrV ta tb) σ H (D K (.bool (a || b))) := fun H1 e Q q => h1 H1 e _ fun v H' H2 u p => ⟨a, dp_bl p, by
  cases a with
  | true =>
    show Q (.bl true) H2
    exact q _ H' H2 u (.bl true)
  | false =>
    show tb σ H2 Q
    exact h2 rfl H2 (e.trans u.2.2.1) Q fun w Hx H3 y p' => q w Hx H3 (y.pre u.2.2.1) p'⟩
theorem vl_notV {a : Bool} (h1 : Vl ta σ H (D K (.bool a))) : Vl (tNotV ta) σ H (D K (.bool (!a))) := fun H1 e Q q => h1 H1 e _ fun v H' H2 u p => ⟨a, dp_bl p, q _ H' H2 u (.bl _)⟩

/-! new objects -/
def Lf (K : PySem.W.Frag) (ds : List PyData) : HO → Hp → Prop := fun o H => ∃ ys, o = .lst ys ∧ DpAll K H ys ds
def Tf (K : PySem.W.Frag) (ds : List PyData) : HO → Hp → Prop := fun o H => ∃ ys, o = .tup ys ∧ DpAll K H ys ds
instance {ds : List PyData} : MoF (Lf K ds) := ⟨fun e ⟨ys, a, b⟩ => ⟨ys, a, dpa_ex e b⟩⟩
instance {ds : List PyData} : MoF (Tf K ds) := ⟨fun e ⟨ys, a, b⟩ => ⟨ys, a, dpa_ex e b⟩⟩
theorem ofF_l {ds : List PyData} {v : V} {H : Hp} : ofF (Lf K ds) v H → D K (.list ds) v H := fun ⟨p, o, e, h, ys, e2, a⟩ => by
  subst e e2; exact .lst (SqL.of h) a
theorem ofF_t {ds : List PyData} {v : V} {H : Hp} : ofF (Tf K ds) v H → D K (.tuple ds) v H := fun ⟨p, o, e, h, ys, e2, a⟩ => by
  subst e e2; exact .tup (SqT.of h) a
theorem Vf.lL {ds : List PyData} (h : Vf te σ H (Lf K ds)) : Vl te σ H (D K (.list ds)) := (Vf.vl h).imp fun _ _ => ofF_l
theorem Vf.tT {ds : List PyData} (h : Vf te σ H (Tf K ds)) : Vl te σ H (D K (.tuple ds)) := (Vf.vl h).imp fun _ _ => ofF_t
theorem KQ.lL {Q : VK} {H1 : Hp} {ds : List PyData} (k : KQ H H1 (D K (.list ds)) Q) : KF H H1 (Lf K ds) Q := (k.imp fun _ _ => ofF_l).f
theorem KQ.tT {Q : VK} {H1 : Hp} {ds : List PyData} (k : KQ H H1 (D K (.tuple ds)) Q) : KF H H1 (Tf K ds) Q := (k.imp fun _ _ => ofF_t).f
theorem KF.go {Q : VK} {H1 : Hp} {P : HO → Hp → Prop} {p : Addr} {o : HO} (k : KF H H1 P Q) (e : Ex H H1) (hp : H1 p = none) (h : P o H) : Q (.ref p) (upd H1 p o) :=
  k p o H (upd H1 p o) (Up.newM e hp) hp (fresh_back e hp) upd_same h
theorem vf_tup {ta : TA} {ds : List PyData} (h : As ta σ H (ds.map (D K))) (hl : ds.length ≤ 100000) : Vf (tTup ta) σ H (Tf K ds) := fun H1 e _ q =>
  h H1 e _ fun vs H' H2 u p => ⟨sz_of (by rw [(PAll.d.mp p).len]; exact hl), fun a ha => (q.then u).go u.of ha ⟨vs, rfl, PAll.d.mp p⟩⟩
theorem vf_lst {ta : TA} {ds : List PyData} (h : As ta σ H (ds.map (D K))) (hl : ds.length ≤ 100000) : Vf (tLst ta) σ H (Lf K ds) := fun H1 e _ q =>
  h H1 e _ fun vs H' H2 u p => ⟨sz_of (by rw [(PAll.d.mp p).len]; exact hl), fun a ha => (q.then u).go u.of ha ⟨vs, rfl, PAll.d.mp p⟩⟩
theorem as_star {tr : TA} {ds : List PyData} {Ps : List Pd} (h : Vl te σ H (D K (.tuple ds))) (hr : ∀ H', Ex H H' → As tr σ H' Ps) : As (StX.tStar K te tr) σ H (ds.map (D K) ++ Ps) := fun H1 e Q q =>
  h H1 e _ fun x Hb Ha u p => by
    obtain ⟨a, xs, rfl, hs, hd⟩ := dp_tup p
    exact ⟨a, xs, rfl, Or.inl (ex_t u.of hs), hr Hb u.ex Ha u.of _ fun vs Hc Hd w p2 => q _ Hc Hd (u.trans w) (PAll.app (PAll.d.mpr (dpa_ex w.ex hd)) p2)⟩
theorem as_starL {tr : TA} {ds : List PyData} {Ps : List Pd} (h : Vl te σ H (D K (.list ds))) (hr : ∀ H', Ex H H' → As tr σ H' Ps) : As (StX.tStar K te tr) σ H (ds.map (D K) ++ Ps) := fun H1 e Q q =>
  h H1 e _ fun x Hb Ha u p => by
    obtain ⟨a, xs, rfl, hs, hd⟩ := dp_lst p
    exact ⟨a, xs, rfl, Or.inr (ex_l u.of hs), hr Hb u.ex Ha u.of _ fun vs Hc Hd w p2 => q _ Hc Hd (u.trans w) (PAll.app (PAll.d.mpr (dpa_ex w.ex hd)) p2)⟩
end
end Ol
set_option Elab.async false
set_option linter.all false
set_option maxRecDepth 100000
set_option maxHeartbeats 4000000
/-! OlKitZ: a zip of two lists collected: tuple(zip(..)), sorted(zip(..)). -/
namespace OlZ
open PySem PySem.W PySem.Calls PyProof.Rows PyProof.V PySem.Spec
abbrev ZS (z TI TO i1 i2 l1 l2 S : Addr) (xs ys : Array Value) (i : Nat) (h : Heap) : Prop :=
  IsPair h TI (.ref i1) (.ref i2) ∧ h.IsListIter i1 l1 i ∧ h.IsListIter i2 l2 i ∧ h.IsList l1 xs ∧ h.IsList l2 ys ∧
    ((IsZip h z TI TO .none ∧ ∃ a b, IsPair h TO a b) ∨ ∃ T f oT, IsZipHeld h z TI TO T f ∧ h.get? T = some oT ∧ T ≠ z ∧ T ≠ i1 ∧ T ≠ i2 ∧ T ≠ S)
/-- S stands apart from the zip's objects -/
def Off (z TI TO i1 i2 l1 l2 S : Addr) : Prop := S ≠ z ∧ S ≠ TI ∧ S ≠ TO ∧ S ≠ i1 ∧ S ≠ i2 ∧ S ≠ l1 ∧ S ≠ l2
section
variable {prog : Program} {w : World} {A : Around} {E : Value → Shared → Prop} {s : Shared} {z TI TO i1 i2 l1 l2 S : Addr} {xs ys : Array Value} {i : Nat}
theorem ZS.keep {h h' : Heap} (o : Off z TI TO i1 i2 l1 l2 S) (st : ZS z TI TO i1 i2 l1 l2 S xs ys i h) (hk : ∀ b o, b ≠ S → h.get? b = some o → h'.get? b = some o) : ZS z TI TO i1 i2 l1 l2 S xs ys i h' := by
  obtain ⟨hTI, h1, h2, hl1, hl2, hz⟩ := st
  obtain ⟨dz, dTI, dTO, di1, di2, dl1, dl2⟩ := o
  refine ⟨hk _ _ (Ne.symm dTI) hTI, h1.at fun o e => hk _ o (Ne.symm di1) e, h2.at fun o e => hk _ o (Ne.symm di2) e, hl1.at fun o e => hk _ o (Ne.symm dl1) e, hl2.at fun o e => hk _ o (Ne.symm dl2) e, ?_⟩
  rcases hz with ⟨hz, a, b, hTO⟩ | ⟨T, f, oT, hz, hT, r1, r2, r3, r4⟩
  · exact .inl ⟨hk _ _ (Ne.symm dz) hz, a, b, hk _ _ (Ne.symm dTO) hTO⟩
  · exact .inr ⟨T, f, oT, hk _ _ (Ne.symm dz) hz, hk _ _ r4 hT, r1, r2, r3, r4⟩
theorem nxtZ {Q : Option Value → Shared → Prop} (D : ZipApart z TI TO i1 i2 l1 l2) (st : ZS z TI TO i1 i2 l1 l2 S xs ys i s.heap) (hS : S < s.heap.objs.size) (hix : i < xs.size) (hiy : i < ys.size)
    (hQ : ∀ h', ZS z TI TO i1 i2 l1 l2 S xs ys (i + 1) h' → IsPair h' s.heap.objs.size xs[i] ys[i] → h'.objs.size = s.heap.objs.size + 1 →
      (∀ c o, c ≠ z → c ≠ TO → c ≠ i1 → c ≠ i2 → s.heap.get? c = some o → h'.get? c = some o) → Q (some (.ref s.heap.objs.size)) { s with heap := h' }) :
    wpAny (model prog w) A (pyNext (.ref z)) Q E s := by
  obtain ⟨hTI, h1, h2, hl1, hl2, hz⟩ := st
  have ex := Array.getElem?_eq_getElem hix
  have ey := Array.getElem?_eq_getElem hiy
  have lt : ∀ {c o}, s.heap.get? c = some o → s.heap.objs.size ≠ c := fun e => Nat.ne_of_gt (Heap.lt_size e)
  have n1 : s.heap.objs.size ≠ i1 := let ⟨_, e, _⟩ := h1; lt e
  have n2 : s.heap.objs.size ≠ i2 := let ⟨_, e, _⟩ := h2; lt e
  rcases hz with ⟨hz, a, b, hTO⟩ | ⟨T, f, oT, hz, hT, r1, r2, r3, r4⟩
  · refine wpAny_pyNext_zip_item D hz hTI hTO h1 h2 hl1 hl2 ex ey fun h' a1 a2 a3 a4 a5 a6 hk => ?_
    exact hQ h' ⟨hk _ _ D.TIz D.TITO D.TIi1 D.TIi2 hTI, a3, a4, hl1.at fun o e => hk _ o D.l1z D.l1TO D.l1i1 D.l1i2 e, hl2.at fun o e => hk _ o D.l2z D.l2TO D.l2i1 D.l2i2 e,
        .inr ⟨s.heap.objs.size, false, _, a1, a5, lt hz, n1, n2, Nat.ne_of_gt hS⟩⟩ a5 a6 hk
  · refine wpAny_pyNext_zip_item_held D hz hT hTI h1 h2 hl1 hl2 ex ey fun h' a1 a3 a4 a5 a6 hk => ?_
    exact hQ h' ⟨hk _ _ D.TIz D.TIi1 D.TIi2 hTI, a3, a4, hl1.at fun o e => hk _ o D.l1z D.l1i1 D.l1i2 e, hl2.at fun o e => hk _ o D.l2z D.l2i1 D.l2i2 e,
        .inr ⟨T, true, oT, a1, hk _ _ r1 r2 r3 hT, r1, r2, r3, r4⟩⟩ a5 a6 fun c o c1 _ c3 c4 e => hk c o c1 c3 c4 e
theorem finZ {Q : Option Value → Shared → Prop} (hh : A.handled = none) (D : ZipApart z TI TO i1 i2 l1 l2) (st : ZS z TI TO i1 i2 l1 l2 S xs ys i s.heap) (hge : xs.size ≤ i ∨ ys.size ≤ i)
    (hQ : ∀ h', (∀ c o, c ≠ z → c ≠ TO → c ≠ i1 → c ≠ i2 → s.heap.get? c = some o → h'.get? c = some o) → Q none { s with heap := h' }) : wpAny (model prog w) A (pyNext (.ref z)) Q E s := by
  obtain ⟨hTI, h1, h2, hl1, hl2, hz⟩ := st
  have hend : xs[i]? = none ∨ ys[i]? = none := by
    rcases hge with h | h
    · exact .inl (Array.getElem?_eq_none h)
    · exact .inr (Array.getElem?_eq_none h)
  rcases hz with ⟨hz, a, b, hTO⟩ | ⟨T, f, oT, hz, hT, r1, r2, r3, r4⟩
  · exact wpAny_pyNext_zip_end hh D hz hTI hTO h1 h2 hl1 hl2 hend hQ
  · exact wpAny_pyNext_zip_end_held hh D hz hT hTI h1 h2 hl1 hl2 hend fun h' hk => hQ h' fun c o c1 _ c3 c4 e => hk c o c1 c3 c4 e
end
structure Made (xs ys : Array Value) (lo : Addr) (h : Heap) (as : List Addr) : Prop where
  rise : as.Pairwise (· < ·)
  above : ∀ a ∈ as, lo < a
  pairs : ∀ (j : Nat) (a : Addr), as[j]? = some a → ∃ x y, xs[j]? = some x ∧ ys[j]? = some y ∧ IsPair h a x y
theorem Made.there {xs ys : Array Value} {lo : Addr} {h : Heap} {as : List Addr} (g : Made xs ys lo h as) {a : Addr} (ha : a ∈ as) : a < h.objs.size := by
  obtain ⟨j, hj⟩ := List.mem_iff_getElem?.mp ha
  obtain ⟨_, _, _, _, e⟩ := g.pairs j a hj
  exact Heap.lt_size e
section
variable {prog : Program} {w : World} {A : Around} {s : Shared} {R : Result → Shared → Prop} {z TI TO i1 i2 l1 l2 S : Addr} {xs ys : Array Value}
theorem loopZ (hh : A.handled = none) (D : ZipApart z TI TO i1 i2 l1 l2) (off : Off z TI TO i1 i2 l1 l2 S) (hzS : z < S) (hTOS : TO < S) (hi1S : i1 < S) (hi2S : i2 < S) (hn : xs.size ≤ sizeLine) (res : Value) {h₁ : Heap}
    (hR : ∀ h' tk acc c as, (∀ b o, b ≠ S → b ≠ z → b ≠ TO → b ≠ i1 → b ≠ i2 → h₁.get? b = some o → h'.get? b = some o) → h'.get? S = some { cls := .type "list", dict := none, data := .seq acc c, slots := #[] } →
      as.length = min xs.size ys.size → Made xs ys S h' as → acc.toList = as.map Value.ref → R (.ok (.ret res)) { s with heap := h', toks := tk }) :
    ∀ (k i : Nat) (h : Heap) (tk c : Nat) (acc : Array Value) (as : List Addr), min xs.size ys.size - i = k → i ≤ min xs.size ys.size → ZS z TI TO i1 i2 l1 l2 S xs ys i h →
      (∀ b o, b ≠ S → b ≠ z → b ≠ TO → b ≠ i1 → b ≠ i2 → h₁.get? b = some o → h.get? b = some o) →
      h.get? S = some { cls := .type "list", dict := none, data := .seq acc c, slots := #[] } → acc.toList = as.map Value.ref → as.length = i → Made xs ys S h as →
      codeAny (model prog w) A (.builtin "list.extend.loop" ⟨[.ref S, .ref z, res], []⟩) R { s with heap := h, toks := tk } := by
  obtain ⟨dz, dTI, dTO, di1, di2, dl1, dl2⟩ := id off
  intro k
  induction k with
  | zero =>
    intro i h tk c acc as hk hi hst hkeep hS hacc hal hG
    refine codeAny_builtin PySem.F.entry_extend_loop ?_
    rw [Around.under_plainId PySem.F.plain_extend_loop _]
    show wpAny _ A.in1 (pyNext (.ref z) >>= _) _ _ _
    refine wpAny_bind (finZ (s := { s with heap := h, toks := tk }) (A := A.in1) hh D hst (by omega) fun h' he => ?_)
    refine wpAny_pure (hR h' tk acc c as (fun b o h1 h2 h3 h4 h5 e => he b o h2 h3 h4 h5 (hkeep b o h1 h2 h3 h4 h5 e)) (he S _ dz dTO di1 di2 hS) (by omega) ⟨hG.rise, hG.above, fun j a hj => ?_⟩ hacc)
    obtain ⟨x, y, e1, e2, e3⟩ := hG.pairs j a hj
    have ha := hG.above a (List.mem_of_getElem? hj)
    exact ⟨x, y, e1, e2, he a _ (Nat.ne_of_gt (Nat.lt_trans hzS ha)) (Nat.ne_of_gt (Nat.lt_trans hTOS ha)) (Nat.ne_of_gt (Nat.lt_trans hi1S ha)) (Nat.ne_of_gt (Nat.lt_trans hi2S ha)) e3⟩
  | succ k ih =>
    intro i h tk c acc as hk hi hst hkeep hS hacc hal hG
    have hlx : i < xs.size := by omega
    have hly : i < ys.size := by omega
    have hsz : acc.size = i := by rw [← Array.length_toList, hacc, List.length_map, hal]
    refine codeAny_builtin PySem.F.entry_extend_loop ?_
    rw [Around.under_plainId PySem.F.plain_extend_loop _]
    show wpAny _ A.in1 (pyNext (.ref z) >>= _) _ _ _
    refine wpAny_bind (nxtZ (s := { s with heap := h, toks := tk }) D hst (Heap.lt_size hS) hlx hly fun h' hst' ht hz hkp => ?_)
    dsimp only at ht hz hkp ⊢
    have hS' := hkp S _ dz dTO di1 di2 hS
    have up : ∀ b o, b ≠ S → h'.get? b = some o → (h'.update S (Obj.mapSeq (·.push (Value.ref h.objs.size)))).get? b = some o := fun b o hb e => (Heap.get?_update_other _ _ (Ne.symm hb)).trans e
    have hSl : S < h.objs.size := Heap.lt_size hS
    show wpAny _ A.in1 (updateSeq S (·.push (Value.ref h.objs.size)) >>= _) _ _ _
    refine wpAny_bind ?_
    refine wpAny_updateSeq hS' rfl (wpAny_pure ⟨plainId_quiet PySem.F.plain_extend_loop _, ih (i + 1) _ tk _ (acc.push (Value.ref h.objs.size)) (as ++ [h.objs.size]) (by omega) (by omega) (hst'.keep off up)
      (fun b o h1 h2 h3 h4 h5 e => up b o h1 (hkp b o h2 h3 h4 h5 (hkeep b o h1 h2 h3 h4 h5 e))) (Heap.get?_update_self _ hS' rfl) (by rw [Array.toList_push, hacc, List.map_append]; rfl) (by rw [List.length_append, hal]; rfl) ⟨?_, ?_, ?_⟩⟩) (by rw [hsz]; omega) (by show (acc.push (Value.ref h.objs.size)).size ≤ sizeLine + 1; rw [Array.size_push, hsz]; omega)
    · refine List.pairwise_append.mpr ⟨hG.rise, List.pairwise_singleton _ _, fun a ha b hb => ?_⟩
      rw [List.mem_singleton.mp hb]
      exact hG.there ha
    · intro a ha
      rcases List.mem_append.mp ha with ha | ha
      · exact hG.above a ha
      · rw [List.mem_singleton.mp ha]; exact hSl
    · intro j b hj
      rcases Nat.lt_trichotomy j as.length with h1 | h1 | h1
      · rw [List.getElem?_append_left h1] at hj
        obtain ⟨x, y, e1, e2, e3⟩ := hG.pairs j b hj
        have hb := hG.above b (List.mem_of_getElem? hj)
        exact ⟨x, y, e1, e2, up b _ (Nat.ne_of_gt hb) (hkp b _ (Nat.ne_of_gt (Nat.lt_trans hzS hb)) (Nat.ne_of_gt (Nat.lt_trans hTOS hb)) (Nat.ne_of_gt (Nat.lt_trans hi1S hb)) (Nat.ne_of_gt (Nat.lt_trans hi2S hb)) e3)⟩
      · subst h1
        have hb : h.objs.size = b := by simpa using hj
        subst hb
        exact ⟨xs[as.length]'(by rw [hal]; exact hlx), ys[as.length]'(by rw [hal]; exact hly), Array.getElem?_eq_getElem _, Array.getElem?_eq_getElem _, up _ _ (Nat.ne_of_gt hSl) (by subst hal; exact ht)⟩
      · have hnone : (as ++ [h.objs.size])[j]? = none := List.getElem?_eq_none (by rw [List.length_append, List.length_singleton]; omega)
        rw [hnone] at hj; cases hj
end
theorem zip_no_len : typeLookup (.type "zip") "__len__" = pure none := by rw [typeLookup_type, builtinLookup_eq_fast]; kernel_rfl
theorem zip_no_hint : typeLookup (.type "zip") "__length_hint__" = pure none := by rw [typeLookup_type, builtinLookup_eq_fast]; kernel_rfl
section
variable {prog : Program} {w : World} {A : Around} {E : Value → Shared → Prop} {s : Shared} {r : Addr}
theorem zip_hint (hT : s.TypeIs (.ref r) "zip") {Q : Bool → Shared → Prop} (h : Q true s) : wpAny (model prog w) A (Builtin.List.listLengthHint (.ref r)) Q E s := by
  unfold Builtin.List.listLengthHint
  refine wpAny_bind (wpAny_specialOf hT zip_no_len ?_)
  dsimp only
  refine wpAny_ite_split (fun hab => absurd hab (by decide +kernel)) (fun _ => ?_)
  simp only [Option.isSome_none, Bool.false_eq_true, if_false]
  refine wpAny_bind (wpAny_specialOf hT zip_no_hint ?_)
  exact wpAny_pure h
end
section
variable {prog : Program} {w : World} {A : Around} {E : Value → Shared → Prop} {s : Shared} {z TI TO i1 i2 l1 l2 : Addr} {xs ys : Array Value}
/-- a zip just made over two lists -/
abbrev Zn (z TI TO i1 i2 l1 l2 : Addr) (xs ys : Array Value) (h : Heap) : Prop :=
  IsPair h TI (.ref i1) (.ref i2) ∧ h.IsListIter i1 l1 0 ∧ h.IsListIter i2 l2 0 ∧ h.IsList l1 xs ∧ h.IsList l2 ys ∧ IsZip h z TI TO .none ∧ ∃ a b, IsPair h TO a b
theorem Zn.lt {h : Heap} (Z : Zn z TI TO i1 i2 l1 l2 xs ys h) : z < h.objs.size ∧ TI < h.objs.size ∧ TO < h.objs.size ∧ i1 < h.objs.size ∧ i2 < h.objs.size ∧ l1 < h.objs.size ∧ l2 < h.objs.size := by
  obtain ⟨hTI, ⟨o1, h1, _⟩, ⟨o2, h2, _⟩, ⟨o3, hl1, _⟩, ⟨o4, hl2, _⟩, hz, a, c, hTO⟩ := Z
  exact ⟨Heap.lt_size hz, Heap.lt_size hTI, Heap.lt_size hTO, Heap.lt_size h1, Heap.lt_size h2, Heap.lt_size hl1, Heap.lt_size hl2⟩
theorem Zn.zs {h : Heap} {S : Addr} (Z : Zn z TI TO i1 i2 l1 l2 xs ys h) : ZS z TI TO i1 i2 l1 l2 S xs ys 0 h := by
  obtain ⟨a1, a2, a3, a4, a5, a6, a7⟩ := Z
  exact ⟨a1, a2, a3, a4, a5, .inl ⟨a6, a7⟩⟩
theorem extZ {R : Result → Shared → Prop} (hh : A.handled = none) (D : ZipApart z TI TO i1 i2 l1 l2) {S : Addr} (off : Off z TI TO i1 i2 l1 l2 S) (hzS : z < S) (hTOS : TO < S) (hi1S : i1 < S) (hi2S : i2 < S)
    (st : ZS z TI TO i1 i2 l1 l2 S xs ys 0 s.heap) (hz : s.heap.get? z = some { cls := .type "zip", dict := none, data := .fields #[.none, .bool false, .bool false, .ref TI, .ref TO], slots := #[] }) (res : Value) (c₀ : Nat) (hS : s.heap.get? S = some { cls := .type "list", data := .seq #[] c₀ })
    (hR : ∀ h' tk acc c as, (∀ b o, b ≠ S → b ≠ z → b ≠ TO → b ≠ i1 → b ≠ i2 → s.heap.get? b = some o → h'.get? b = some o) → h'.get? S = some { cls := .type "list", dict := none, data := .seq acc c, slots := #[] } →
      as.length = min xs.size ys.size → Made xs ys S h' as → acc.toList = as.map Value.ref → R (.ok (.ret res)) { s with heap := h', toks := tk }) (hn : xs.size ≤ sizeLine) :
    wpAny (model prog w) A.in1 (Builtin.List.listExtendWith (.ref S) (.ref z) res)
      (fun fin s' => match fin with | .done f => R (.ok f) s' | .again c' => c'.quiet = true ∧ codeAny (model prog w) A c' R s') (fun e s' => R (.error e) s') s := by
  have hT : s.TypeIs (.ref z) "zip" := ⟨_, hz, rfl⟩
  unfold Builtin.List.listExtendWith
  refine wpAny_bind (wpAny_typeOf (T := "zip") hT ?_)
  have h1 : Builtin.List.listSameRef (.ref S) (.ref z) = false := by simp [Builtin.List.listSameRef, off.1]
  have h2 : (Value.type "zip" == Value.type "list") = false := by decide
  have h3 : (Value.type "zip" == Value.type "tuple") = false := by decide
  simp only [h1, h2, h3, Bool.or_false, Bool.false_eq_true, if_false]
  refine wpAny_bind (wpAny_pyIter_zip hz ?_)
  refine wpAny_bind (wpAny_holding (zip_hint hT ?_))
  refine wpAny_ite_split (fun _ => ?_) (fun hab => absurd rfl hab)
  refine wpAny_bind (wpAny_rule ?_)
  refine wpAny_bind ?_
  show wpAny _ _ (updateSeq S (·.push .none) >>= fun _ => updateSeq S (·.pop)) _ _ _
  refine wpAny_bind (wpAny_updateSeq hS rfl ?_)
  have hS₂ := Heap.get?_update_self (Obj.mapSeq (·.push Value.none)) hS rfl
  refine wpAny_updateSeq (hz := by seq_fits) hS₂ rfl ?_
  have hS₃ := Heap.get?_update_self (Obj.mapSeq (·.pop)) hS₂ rfl
  have k : ∀ b o, b ≠ S → s.heap.get? b = some o → ((s.heap.update S (Obj.mapSeq (·.push Value.none))).update S (Obj.mapSeq (·.pop))).get? b = some o := fun b o hb e => (Heap.get?_update_other _ _ (Ne.symm hb)).trans ((Heap.get?_update_other _ _ (Ne.symm hb)).trans e)
  refine wpAny_pure ⟨plainId_quiet PySem.F.plain_extend_loop _, loopZ (h₁ := s.heap) (s := s) hh D off hzS hTOS hi1S hi2S hn res hR (min xs.size ys.size) 0 _ _ _ #[] [] (Nat.sub_zero _) (Nat.zero_le _) (st.keep off k) (fun b o hb _ _ _ _ e => k b o hb e) hS₃ rfl rfl
    ⟨List.Pairwise.nil, (fun _ ha => nomatch ha), (fun j a hj => by simp at hj)⟩⟩

theorem Zn.push {h : Heap} (Z : Zn z TI TO i1 i2 l1 l2 xs ys h) (o : Obj) : Zn z TI TO i1 i2 l1 l2 xs ys (h.push o) := by
  obtain ⟨a1, a2, a3, a4, a5, a6, x, y, a7⟩ := Z
  exact ⟨Heap.get?_push_of_some _ a1, a2.at fun o e => Heap.get?_push_of_some _ e, a3.at fun o e => Heap.get?_push_of_some _ e, a4.at fun o e => Heap.get?_push_of_some _ e, a5.at fun o e => Heap.get?_push_of_some _ e, Heap.get?_push_of_some _ a6, x, y, Heap.get?_push_of_some _ a7⟩
theorem collectZ {R : List Value → Shared → Prop} (hh : A.handled = none) (D : ZipApart z TI TO i1 i2 l1 l2) (Z : Zn z TI TO i1 i2 l1 l2 xs ys s.heap) (hn : xs.size ≤ sizeLine)
    (h : ∀ (h' : Heap) (tk : Nat) (as : List Addr), (∀ b o, b ≠ z → b ≠ TO → b ≠ i1 → b ≠ i2 → s.heap.get? b = some o → h'.get? b = some o) → s.heap.objs.size < h'.objs.size → as.length = min xs.size ys.size → Made xs ys s.heap.objs.size h' as → R (as.map Value.ref) { s with heap := h', toks := tk }) :
    wpAny (model prog w) A (collect (.ref z)) R E s := by
  obtain ⟨lz, lTI, lTO, li1, li2, ll1, ll2⟩ := Z.lt
  have off : Off z TI TO i1 i2 l1 l2 s.heap.objs.size := ⟨Nat.ne_of_gt lz, Nat.ne_of_gt lTI, Nat.ne_of_gt lTO, Nat.ne_of_gt li1, Nat.ne_of_gt li2, Nat.ne_of_gt ll1, Nat.ne_of_gt ll2⟩
  unfold collect
  refine wpAny_bind (wpAny_runValue (codeAny_builtin entry_proto_collect' ?_))
  rw [Around.under_plainId PySem.F.plain_proto_collect _]
  show wpAny _ A.in1 (newList [] >>= fun l => again (.builtin "list.__iadd__" ⟨[l, .ref z], []⟩)) _ _ s
  refine wpAny_bind (wpAny_newObj_type ?_)
  refine wpAny_pure ⟨plainId_quiet PySem.F.plain_list_iadd _, codeAny_builtin entry_list_iadd' ?_⟩
  rw [Around.under_plainId PySem.F.plain_list_iadd _]
  have hS₁ : (s.heap.push { cls := .type "list", data := .seq ([] : List Value).toArray }).get? s.heap.objs.size = some { cls := .type "list", data := .seq #[] } := Heap.get?_push_size _ rfl
  show wpAny _ A.in1 (Builtin.List.listExtendWith (.ref s.heap.objs.size) (.ref z) (.ref s.heap.objs.size)) _ _ _
  have Z2 := Z.push { cls := .type "list", data := .seq ([] : List Value).toArray }
  have key := extZ (prog := prog) (w := w) (A := A) (s := { s with heap := s.heap.push { cls := .type "list", data := .seq ([] : List Value).toArray } }) (xs := xs) (ys := ys)
    (R := fun (q : Result) (s' : Shared) => ∃ (h' : Heap) (tk : Nat) (acc' : Array Value) (c' : Nat) (as : List Addr), q = .ok (.ret (.ref s.heap.objs.size)) ∧ s' = { s with heap := h', toks := tk } ∧
      (∀ b o, b ≠ z → b ≠ TO → b ≠ i1 → b ≠ i2 → s.heap.get? b = some o → h'.get? b = some o) ∧ h'.get? s.heap.objs.size = some { cls := .type "list", dict := none, data := .seq acc' c', slots := #[] } ∧ as.length = min xs.size ys.size ∧ Made xs ys s.heap.objs.size h' as ∧ acc'.toList = as.map Value.ref)
    hh D off lz lTO li1 li2 Z2.zs Z2.2.2.2.2.2.1 (.ref s.heap.objs.size) 0 hS₁
    (fun h' tk acc' c' as hk hS' hl hG hacc => ⟨h', tk, acc', c', as, rfl, rfl, fun b o c1 c2 c3 c4 e => hk b o (Nat.ne_of_lt (Heap.lt_size e)) c1 c2 c3 c4 (Heap.get?_push_of_some _ e), hS', hl, hG, hacc⟩) hn
  refine wpAny_mono key (fun fin s' x => ?_) fun e s' x => ?_
  · cases fin with
    | done f =>
      obtain ⟨h', tk, acc', c', as, e, rfl, hk, hS', hl, hG, hacc⟩ := x
      cases e
      show wpAny _ A (load s.heap.objs.size >>= _) _ _ _
      refine wpAny_bind (wpAny_load hS' ?_)
      refine wpAny_pure ?_
      show R acc'.toList _
      rw [hacc]
      exact h h' tk as hk (Heap.lt_size hS') hl hG
    | again c₁ =>
      refine ⟨x.1, codeAny_mono x.2 fun q s₂ y => ?_⟩
      obtain ⟨h', tk, acc', c', as, rfl, rfl, hk, hS', hl, hG, hacc⟩ := y
      show wpAny _ A (load s.heap.objs.size >>= _) _ _ _
      refine wpAny_bind (wpAny_load hS' ?_)
      refine wpAny_pure ?_
      show R acc'.toList _
      rw [hacc]
      exact h h' tk as hk (Heap.lt_size hS') hl hG
  · obtain ⟨_, _, _, _, _, e', _⟩ := x
    cases e'
/-- sorted(zip) up to the sort of the pairs -/
theorem sortedZ {Q : Value → Shared → Prop} (hh : A.handled = none) (D : ZipApart z TI TO i1 i2 l1 l2) (Z : Zn z TI TO i1 i2 l1 l2 xs ys s.heap) (hn : xs.size ≤ sizeLine)
    (h : ∀ (h' : Heap) (tk : Nat) (as : List Addr), (∀ b o, b ≠ z → b ≠ TO → b ≠ i1 → b ≠ i2 → s.heap.get? b = some o → h'.get? b = some o) → s.heap.objs.size < h'.objs.size → as.length = min xs.size ys.size → Made xs ys s.heap.objs.size h' as →
      wpAny (model prog w) A.in1 (call (.builtin "list.sort") [.ref h'.objs.size]) (fun _ s' => Q (.ref h'.objs.size) s') E { s with heap := h'.push { cls := .type "list", data := .seq (as.map Value.ref).toArray }, toks := tk }) :
    wpAny (model prog w) A (call (.builtin "sorted") [.ref z]) Q E s := by
  refine call_function_entry kind_sorted plain_sorted entry_sorted (args_sorted1 _) ?_
  unfold Builtin.«sorted»
  refine wpAny_bind (m := checkCount "sorted" 1 1 _) (wpAny_pure ?_)
  refine wpAny_bind (collectZ (A := A.in1) hh D Z hn fun h' tk as hk hlt hl hG => ?_)
  refine wpAny_bind (wpAny_newList ?_ (by rw [List.length_map, hl]; exact Nat.le_trans (Nat.min_le_left ..) hn))
  have hg := h h' tk as hk hlt hl hG
  refine wpAny_bind (wpAny_holding (wpAny_mono hg (fun _ s' x => ?_) fun _ _ e => e))
  exact wpAny_pure ⟨_, rfl, x⟩
theorem code_tuple_newZ {Q₁ : Value → Shared → Prop} (hh : A.handled = none) (D : ZipApart z TI TO i1 i2 l1 l2) (Z : Zn z TI TO i1 i2 l1 l2 xs ys s.heap) (hn : xs.size ≤ sizeLine)
    (h : ∀ (h' : Heap) (tk : Nat) (as : List Addr), (∀ b o, b ≠ z → b ≠ TO → b ≠ i1 → b ≠ i2 → s.heap.get? b = some o → h'.get? b = some o) → s.heap.objs.size < h'.objs.size → as.length = min xs.size ys.size → Made xs ys s.heap.objs.size h' as →
      Q₁ (.ref h'.objs.size) { s with heap := h'.push { cls := .type "tuple", data := .seq (as.map Value.ref).toArray }, toks := tk }) :
    codeAny (model prog w) A (.call (.builtin "tuple.__new__") ⟨[.type "tuple", .ref z], []⟩) (wants Q₁ E) s := by
  refine codeAny_of_tree ?_
  show wpAny _ A.in1 (do checkBuiltinCall "tuple.__new__" ⟨[.type "tuple", .ref z], []⟩; again (.builtin "tuple.__new__" ⟨[.type "tuple", .ref z], []⟩)) _ _ s
  refine wpAny_bind (wpAny_of_eq (PySem.F.newCall_tuple_1 _) (wpAny_pure ⟨plainId_quiet PySem.F.plain_tuple_new _, codeAny_builtin PySem.F.entry_tuple_new ?_⟩))
  rw [Around.under_plainId PySem.F.plain_tuple_new _]
  have hsub := sub_tuple_self
  have hinit := init_tuple_lookup
  have hmh := madeHere_tuple
  have hTI : s.TypeIs (.ref z) "zip" := ⟨_, Z.2.2.2.2.2.1, rfl⟩
  have hh1 : A.in1.handled = none := hh
  wp_walk using wpAny_typeOf hTI, collectZ (A := A.in1) hh1 D Z hn
  intro h' tk as hk hlt hl hG
  show wpAny _ _ (Builtin.Tuple.tupleExact (as.map Value.ref).toArray >>= fun v => ret v) _ _ _
  unfold Builtin.Tuple.tupleExact
  refine wpAny_bind (wpAny_newObj_type ?_ (by show (as.map Value.ref).toArray.size ≤ sizeLine; simp only [List.size_toArray, List.length_map]; rw [hl]; exact Nat.le_trans (Nat.min_le_left ..) hn))
  exact wpAny_pure (h h' tk as hk hlt hl hG)
theorem call_tupleZ {Q : Value → Shared → Prop} (hh : A.handled = none) (D : ZipApart z TI TO i1 i2 l1 l2) (Z : Zn z TI TO i1 i2 l1 l2 xs ys s.heap) (hn : xs.size ≤ sizeLine)
    (h : ∀ (h' : Heap) (tk : Nat) (as : List Addr), (∀ b o, b ≠ z → b ≠ TO → b ≠ i1 → b ≠ i2 → s.heap.get? b = some o → h'.get? b = some o) → s.heap.objs.size < h'.objs.size → as.length = min xs.size ys.size → Made xs ys s.heap.objs.size h' as →
      Q (.ref h'.objs.size) { s with heap := h'.push { cls := .type "tuple", data := .seq (as.map Value.ref).toArray }, toks := tk }) :
    wpAny (model prog w) A (call (.type "tuple") [.ref z]) Q E s := by
  refine callType_codes (Q₁ := fun obj s₁ => s₁.TypeIs obj "tuple" ∧ Q obj s₁) PySem.F.called_tuple (PySem.F.typeCall_tuple_1 _) PySem.F.entry_object_init
    (code_tuple_newZ (A := A.in1) hh D Z hn fun h' tk as hk hlt hl hG => ⟨⟨_, Heap.get?_push_size _ rfl, rfl⟩, h h' tk as hk hlt hl hG⟩) fun obj s₁ h₁ => ?_
  exact ⟨h₁.1, PySem.F.args_object_init_2 obj _, object_init_meets PySem.F.called_tuple.init.lookup PySem.F.called_tuple.made (by decide) prog w A.in1 _ s₁ ⟨h₁.1, rfl, h₁.2⟩⟩
end
end OlZ
set_option Elab.async false
set_option linter.all false
set_option maxRecDepth 100000
set_option maxHeartbeats 4000000
/-! OlKitS: sorted of tuples whose first items are texts, no two alike. -/
namespace OlS
open PySem PySem.W PySem.Calls PyProof.Rows PySem.Spec Srt SrtO
/-- the item v is a tuple whose first item is the text y -/
def TxIn (h : Heap) (v : Value) (y : Str) : Prop := ∃ (a : Addr) (o : Obj) (t : Tok) (rest : List Value) (n : Nat), v = .ref a ∧ h.get? a = some o ∧ o.cls = .type "tuple" ∧ o.data = .seq (Value.str y t :: rest).toArray n
theorem TxIn.keeps {h h' : Heap} {v : Value} {y : Str} (x : TxIn h v y) (k : ∀ b o, h.get? b = some o → o.cls = .type "tuple" → h'.get? b = some o) : TxIn h' v y := by
  obtain ⟨a, o, t, rest, n, e, ho, hc, hd⟩ := x
  exact ⟨a, o, t, rest, n, e, k a o ho hc, hc, hd⟩
/-- x ahead of y -/
def ltS (x y : Str) : Bool := decide (x.cps.toList < y.cps.toList)
theorem swo_ltS : Swo ltS := by
  refine ⟨fun x y h => ?_, fun x y z h1 h2 => ?_⟩
  · have a := of_decide_eq_true (p := x.cps.toList < y.cps.toList) h
    exact decide_eq_false (p := y.cps.toList < x.cps.toList) (List.lt_asymm a)
  · have a := of_decide_eq_false (p := y.cps.toList < x.cps.toList) h1
    have b := of_decide_eq_false (p := z.cps.toList < y.cps.toList) h2
    exact decide_eq_false (p := z.cps.toList < x.cps.toList) (List.not_lt.mpr (List.le_trans (List.not_lt.mp a) (List.not_lt.mp b)))
def ltT (tx : Value → Str) (v u : Value) : Bool := ltS (tx v) (tx u)
theorem swo_tx (tx : Value → Str) : Swo (ltT tx) := ⟨fun x y h => swo_ltS.asym (tx x) (tx y) h, fun x y z h1 h2 => swo_ltS.tr (tx x) (tx y) (tx z) h1 h2⟩
section
variable {prog : Program} {w : World} {A : Around} {E : Value → Shared → Prop} {s : Shared} {tx : Value → Str} {vs : List Value}
theorem kat_same {b fin : Bool} {Q : Bool → Shared → Prop} (h : Q fin s) : ∀ (l : List Value) (i : Nat), KatLex prog w A b fin Q (l.zip l) i s
  | [], i => kat_nil h
  | v :: l, i => kat_cons (SeqAt.EqAt.same v prog w _ _ (kat_yes (kat_same h l (i + 1))))
theorem tx_cmp (hp : ∀ v ∈ vs, TxIn s.heap v (tx v)) (inj : ∀ v ∈ vs, ∀ u ∈ vs, tx v = tx u → v = u) : Cmp prog w A s (tuples' true) (fun p => p.1 ∈ vs) (lt2 (ltT tx)) := by
  intro p q hm hm'
  have h1 := hp _ hm
  have h2 := hp _ hm'
  show wpAny (model prog w) A (keyLt' (tuples' true) p.1 q.1) (fun r s' => s' = s ∧ r = ltT tx p.1 q.1) (fun _ _ => False) s
  by_cases c : tx p.1 = tx q.1
  · have e0 := inj _ hm _ hm' c
    have e3 : ltT tx p.1 q.1 = false := by
      unfold ltT
      rw [c]
      exact swo_ltS.refl _
    rw [e3, ← e0]
    obtain ⟨a, o, t, rest, n, e, ho, hc, hd⟩ := h1
    rw [e]
    refine PySem.W.kat_lt ho hd ho hd ?_
    have e4 : decide ((Value.str (tx p.1) t :: rest).toArray.size < (Value.str (tx p.1) t :: rest).toArray.size) = false := decide_eq_false (Nat.lt_irrefl _)
    rw [e4]
    exact kat_same (show s = s ∧ false = false from ⟨rfl, rfl⟩) _ _
  · obtain ⟨a, o, t, rest, n, e, ho, hc, hd⟩ := h1
    obtain ⟨a', o', t', rest', n', e', ho', hc', hd'⟩ := h2
    have el : ltT tx p.1 q.1 = decide ((tx p.1).cps.toList < (tx q.1).cps.toList) := rfl
    rw [el]
    generalize tx p.1 = x at c hd el ⊢
    generalize tx q.1 = y at c hd' el ⊢
    rw [e, e']
    refine PySem.W.kat_lt ho hd ho' hd' ?_
    show PySem.W.KatLex prog w A true _ _ ((Value.str x t, Value.str y t') :: rest.zip rest') 0 s
    refine PySem.W.kat_cons (SeqAt.EqAt.str_str x t y t' prog w _ _ ?_)
    have e5 : (x == y) = false := by simpa using c
    rw [e5]
    exact PySem.W.kat_no (oneLt_str ⟨rfl, rfl⟩)
theorem firsts_tx {h : Heap} : ∀ {vs : List Value}, (∀ v ∈ vs, TxIn h v (tx v)) → ∃ fs : List Value, PySem.W.KatTups h vs fs ∧ fs.length = vs.length ∧ ∀ f ∈ fs, ∃ x t, f = Value.str x t
  | [], _ => ⟨[], PySem.W.KatTups.nil, rfl, fun _ h => nomatch h⟩
  | v :: vs, hp => by
    obtain ⟨fs, h1, h2, h3⟩ := firsts_tx (vs := vs) fun u hu => hp u (List.mem_cons_of_mem _ hu)
    obtain ⟨a, o, t, rest, n, e, ho, hc, hd⟩ := hp v (List.mem_cons_self ..)
    refine ⟨Value.str (tx v) t :: fs, ?_, by rw [List.length_cons, List.length_cons, h2], fun f hf => ?_⟩
    · rw [e]
      exact PySem.W.KatTups.cons ho hc hd (by rw [← e]; rfl) h1
    · rcases List.mem_cons.mp hf with rfl | hf
      · exact ⟨_, _, rfl⟩
      · exact h3 f hf
theorem tx_sortable {a : Addr} (h0 : 0 < vs.length) (hp : ∀ v ∈ vs, TxIn s.heap v (tx v)) (inj : ∀ v ∈ vs, ∀ u ∈ vs, tx v = tx u → v = u) (ha : ∀ o, s.heap.get? a = some o → o.cls ≠ .type "tuple") : SortableO prog w A s a vs (ltT tx) := by
  intro h' keep
  have hp' : ∀ v ∈ vs, TxIn h' v (tx v) := fun v hm => (hp v hm).keeps fun b o e c => keep b o (fun z => by subst z; exact ha o e c) e
  obtain ⟨fs, h1, h2, h3⟩ := firsts_tx hp'
  refine ⟨tuples' true, fun Q E hq => ?_, tx_cmp hp' inj⟩
  refine PySem.W.kat_kind (T := .type "str") h1 (by omega) (fun f hm => ?_) (by rfl) ?_
  · obtain ⟨x, t, rfl⟩ := h3 f hm
    exact PySem.W.Looks.now
  · have e : (Value.type "str" != Value.type "tuple") = true := by first | decide +kernel | rfl | decide
    rw [e]
    exact hq
end
end OlS

namespace Ol
open PySem L2 PySem.Spec PyProof.Rows
/-- new tuples told -/
def putL (H : Hp) : List (Addr × List V) → Hp
  | [] => H
  | p :: L => putL (upd H p.1 (.tup p.2)) L
theorem putL_off : ∀ (L : List (Addr × List V)) (H : Hp) {b : Addr}, b ∉ L.map (·.1) → putL H L b = H b
  | [], _, _, _ => rfl
  | p :: L, H, b, h => by
    rw [List.map_cons, List.mem_cons, not_or] at h
    show putL (upd H p.1 (.tup p.2)) L b = H b
    rw [putL_off L _ h.2, upd_ne h.1]
theorem putL_at : ∀ (L : List (Addr × List V)) (H : Hp), (L.map (·.1)).Nodup → ∀ p ∈ L, putL H L p.1 = some (.tup p.2)
  | [], _, _, _, h => by cases h
  | p :: L, H, nd, q, h => by
    rw [List.map_cons, List.nodup_cons] at nd
    show putL (upd H p.1 (.tup p.2)) L q.1 = _
    rcases List.mem_cons.mp h with e | e
    · subst e
      rw [putL_off L _ nd.1, upd_same]
    · exact putL_at L _ nd.2 q e
theorem putL_ex : ∀ (L : List (Addr × List V)) (H : Hp), (∀ p ∈ L, H p.1 = none) → (L.map (·.1)).Nodup → ∀ b o, H b = some o → putL H L b = some o
  | [], _, _, _, _, _, e => e
  | p :: L, H, h, nd, b, o, e => by
    rw [List.map_cons, List.nodup_cons] at nd
    refine putL_ex L _ (fun q hq => ?_) nd.2 b o ?_
    · have : q.1 ≠ p.1 := fun z => nd.1 (by rw [← z]; exact List.mem_map.mpr ⟨q, hq, rfl⟩)
      rw [upd_ne this]
      exact h q (List.mem_cons_of_mem _ hq)
    · rw [upd_ne (ne_of_none e (h p (List.mem_cons_self ..)))]
      exact e
section
variable {X : Cx} {pins : List (Addr × Obj)} {σ : L2.St} {H : Hp} {s : Shared}
theorem takeL {h' : Heap} {tk : Nat} (I0 : L2.Inv X pins σ H s) : ∀ (L : List (Addr × List V)) (H1 : Hp), L2.Inv X pins σ H1 { s with heap := h', toks := tk } → (L.map (·.1)).Nodup →
    (∀ p ∈ L, s.heap.objs.size ≤ p.1 ∧ H1 p.1 = none ∧ ∀ H2, ObjOk X.prog X.w H2 h' p.1 (.tup p.2)) → L2.Inv X pins σ (putL H1 L) { s with heap := h', toks := tk }
  | [], H1, I1, _, _ => I1
  | p :: L, H1, I1, hn, h => by
    obtain ⟨hb, hnone, ok⟩ := h p (List.mem_cons_self ..)
    have I2 : L2.Inv X pins σ (upd H1 p.1 (.tup p.2)) { s with heap := h', toks := tk } := I1.take (h' := h') (t' := tk) (fun b ob _ e => e) (I0.fpOk hb hnone) (ok _)
    rw [List.map_cons, List.nodup_cons] at hn
    exact takeL I0 L _ I2 hn.2 fun c hc => by
      obtain ⟨c1, c2, c3⟩ := h c (List.mem_cons_of_mem _ hc)
      exact ⟨c1, by rw [upd_ne (fun z => hn.1 (by rw [← z]; exact List.mem_map.mpr ⟨c, hc, rfl⟩))]; exact c2, c3⟩
abbrev pr2 (t : Addr × Str × V) : Addr × List V := (t.1, [.str t.2.1, t.2.2])
/-- a new list of new pairs -/
def newPairs (H : Hp) (l : Addr) (out : List (Addr × Str × V)) : Hp := upd (putL H (out.map pr2)) l (.lst (out.map fun t => .ref t.1))
structure PairsNew (H : Hp) (l : Addr) (out : List (Addr × Str × V)) : Prop where
  fl : H l = none
  ft : ∀ t ∈ out, H t.1 = none
  nd : (l :: out.map (·.1)).Nodup
def SortedTx (kx : List (Str × V)) : Prop := kx.Pairwise fun e f => OlS.ltS f.1 e.1 = false
theorem map_pr2 (out : List (Addr × Str × V)) : (out.map pr2).map (·.1) = out.map (·.1) := by rw [List.map_map]; rfl
/-- pairs just collected, sorted in their list -/
theorem sort_collected {E : Value → Shared → Prop} {Q : VK} {h' : Heap} {tk : Nat} {as : List Addr} {kx : List (Str × V)} (I0 : L2.Inv X pins σ H s) (I : L2.Inv X pins σ H { s with heap := h', toks := tk }) (hh : X.A.handled = none) (hk : s.heap.objs.size ≤ h'.objs.size)
    (hlo : ∀ a ∈ as, s.heap.objs.size ≤ a) (rise : as.Pairwise (· < ·)) (len : as.length = kx.length) (hz : kx.length ≤ sizeLine)
    (pairs : ∀ (j : Nat) (a : Addr) (e : Str × V), as[j]? = some a → kx[j]? = some e → ∃ t u, RelV e.2 u ∧ h'.get? a = some { cls := .type "tuple", data := .seq #[Value.str e.1 t, u] })
    (nd : (kx.map (·.1)).Nodup)
    (q : ∀ (out : List (Addr × Str × V)) (l : Addr), PairsNew H l out → (out.map (·.2)).Perm kx → SortedTx (out.map (·.2)) → Q (.ref l) (newPairs H l out)) :
    wpAny (model X.prog X.w) X.A.in1 (call (.builtin "list.sort") [.ref h'.objs.size]) (fun _ s' => EP X pins σ Q (.ref h'.objs.size) s') E { s with heap := h'.push { cls := .type "list", data := .seq (as.map Value.ref).toArray }, toks := tk } := by
  have ndA : as.Nodup := List.Pairwise.imp (fun h => Nat.ne_of_lt h) rise
  have hob : (h'.push { cls := .type "list", data := .seq (as.map Value.ref).toArray }).get? h'.objs.size = some (seqObj "list" (as.map Value.ref).toArray 0) := Heap.get?_push_size _ rfl
  have ka : ∀ b o, h'.get? b = some o → (h'.push { cls := .type "list", data := .seq (as.map Value.ref).toArray }).get? b = some o := fun b o e => Heap.get?_push_of_some _ e
  have hs2 : (h'.push { cls := .type "list", data := .seq (as.map Value.ref).toArray }).objs.size = h'.objs.size + 1 := Heap.size_push ..
  generalize hh2 : h'.push { cls := .type "list", data := .seq (as.map Value.ref).toArray } = h2 at hob ka hs2 ⊢
  -- the text of an item
  let kxA : List (Addr × Str × V) := as.zip kx
  let tx : Value → Str := fun v => match v with
    | .ref a => ((kxA.find? fun p => decide (p.1 = a)).map (·.2.1)).getD Str.empty
    | _ => Str.empty
  have zipget : ∀ (j : Nat) (a : Addr) (e : Str × V), as[j]? = some a → kx[j]? = some e → (a, e) ∈ kxA := fun j a e ha he => by
    have : (as.zip kx)[j]? = some (a, e) := by rw [List.getElem?_zip_eq_some]; exact ⟨ha, he⟩
    exact List.mem_of_getElem? this
  have mem1 : ∀ p ∈ kxA, ∃ j : Nat, as[j]? = some p.1 ∧ kx[j]? = some p.2 := fun p hp => by
    obtain ⟨j, hj⟩ := List.mem_iff_getElem?.mp hp
    have := List.getElem?_zip_eq_some.mp hj
    exact ⟨j, this⟩
  have uniq : ∀ p ∈ kxA, ∀ p' ∈ kxA, p.1 = p'.1 → p = p' := fun p hp p' hp' e => by
    obtain ⟨j, h1, h2⟩ := mem1 p hp
    obtain ⟨j', h1', h2'⟩ := mem1 p' hp'
    have ej : j = j' := L2.nd_ix ndA h1 (by rw [e]; exact h1')
    subst ej
    rw [h2] at h2'
    have := Option.some.inj h2'
    obtain ⟨a, b⟩ := p
    obtain ⟨a', b'⟩ := p'
    simp only at e this
    subst e this
    rfl
  have txat : ∀ p ∈ kxA, tx (.ref p.1) = p.2.1 := fun p hp => by
    show ((kxA.find? fun q => decide (q.1 = p.1)).map (·.2.1)).getD Str.empty = p.2.1
    cases hf : kxA.find? fun q => decide (q.1 = p.1) with
    | none =>
      rw [List.find?_eq_none] at hf
      have := hf p hp
      simp at this
    | some q =>
      have e0 := List.find?_some hf
      have e1 : q.1 = p.1 := of_decide_eq_true e0
      have e2 := List.mem_of_find?_eq_some hf
      rw [uniq q e2 p hp e1]
      rfl
  have at_ : ∀ v ∈ as.map Value.ref, ∃ p ∈ kxA, v = .ref p.1 := fun v hv => by
    obtain ⟨b, hb, rfl⟩ := List.mem_map.mp hv
    obtain ⟨j, hj⟩ := List.mem_iff_getElem?.mp hb
    have hlt : j < kx.length := by rw [← len]; exact (List.getElem?_eq_some_iff.mp hj).1
    exact ⟨(b, kx[j]), zipget j b _ hj (List.getElem?_eq_getElem hlt), rfl⟩
  have hpT : ∀ v ∈ as.map Value.ref, OlS.TxIn h2 v (tx v) := fun v hv => by
    obtain ⟨p, hp, rfl⟩ := at_ v hv
    obtain ⟨j, h1, h2'⟩ := mem1 p hp
    obtain ⟨t, u, ru, hg⟩ := pairs j p.1 p.2 h1 h2'
    rw [txat p hp]
    exact ⟨p.1, _, t, [u], 0, rfl, ka _ _ hg, rfl, rfl⟩
  have ndK : ∀ p ∈ kxA, ∀ p' ∈ kxA, p.2.1 = p'.2.1 → p = p' := fun p hp p' hp' e => by
    obtain ⟨j, h1, h2⟩ := mem1 p hp
    obtain ⟨j', h1', h2'⟩ := mem1 p' hp'
    have k1 : (kx.map (·.1))[j]? = some p.2.1 := by rw [List.getElem?_map, h2]; rfl
    have k2 : (kx.map (·.1))[j']? = some p.2.1 := by rw [List.getElem?_map, h2', e]; rfl
    have ej : j = j' := L2.nd_ix nd k1 k2
    subst ej
    exact uniq p hp p' hp' (by rw [h1] at h1'; exact Option.some.inj h1')
  have inj : ∀ v ∈ as.map Value.ref, ∀ u ∈ as.map Value.ref, tx v = tx u → v = u := fun v hv u hu e => by
    obtain ⟨p, hp, rfl⟩ := at_ v hv
    obtain ⟨p', hp', rfl⟩ := at_ u hu
    rw [txat p hp, txat p' hp'] at e
    rw [ndK p hp p' hp' e]
  have hlen1 : (as.map Value.ref).length ≤ sizeLine := by rw [List.length_map, len]; exact hz
  refine wpAny_call_entry PyProof.Rows.slot_list_sort ⟨_, hob, rfl⟩ PyProof.Rows.entry_list_sort
    (SrtO.list_sort_ord (OlS.swo_tx tx) hob hlen1 (fun h2' => OlS.tx_sortable (by omega) hpT inj fun o e => ?_) fun outv o1 o2 => ⟨.none, rfl, ?_⟩) (PyProof.Rows.args_list_sort _)
  · have e' : some o = some (seqObj "list" (as.map Value.ref).toArray 0) := e.symm.trans hob
    cases e'
    intro c
    exact absurd (Value.type.inj c) (by decide)
  · -- the items out, with their addresses and pairs
    obtain ⟨ep, he'⟩ := PyProof.Rows.sortedHeap_at (vs := as.map Value.ref) (out := outv.toArray) hob
    have lenP := o2.perm.length_eq
    let back : Value → Addr × Str × V := fun v => match v with
      | .ref a => ((kxA.find? fun p => decide (p.1 = a))).getD (a, Str.empty, .non)
      | _ => (0, Str.empty, .non)
    have backat : ∀ p ∈ kxA, back (.ref p.1) = p := fun p hp => by
      show ((kxA.find? fun q => decide (q.1 = p.1))).getD _ = p
      cases hf : kxA.find? fun q => decide (q.1 = p.1) with
      | none =>
        rw [List.find?_eq_none] at hf
        have := hf p hp
        simp at this
      | some q =>
        have e0 := List.find?_some hf
        have e1 : q.1 = p.1 := of_decide_eq_true e0
        exact uniq q (List.mem_of_find?_eq_some hf) p hp e1
    have mapback : (as.map Value.ref).map back = kxA := by
      apply List.ext_getElem?
      intro j
      rw [List.getElem?_map, List.getElem?_map]
      cases hj : as[j]? with
      | none =>
        have : as.length ≤ j := List.getElem?_eq_none_iff.mp hj
        have h3 : kxA[j]? = none := List.getElem?_eq_none_iff.mpr (by show (as.zip kx).length ≤ j; rw [List.length_zip]; omega)
        rw [h3]; rfl
      | some a =>
        have hlt : j < kx.length := by rw [← len]; exact (List.getElem?_eq_some_iff.mp hj).1
        have hz2 : kxA[j]? = some (a, kx[j]) := List.getElem?_zip_eq_some.mpr ⟨hj, List.getElem?_eq_getElem hlt⟩
        rw [hz2]
        exact congrArg some (backat (a, kx[j]) (List.mem_of_getElem? hz2))
    have permB : (outv.map back).Perm kxA := by rw [← mapback]; exact o2.perm.map back
    have perm2 : ((outv.map back).map (·.2)).Perm kx := by
      have := permB.map (·.2)
      have e : kxA.map (·.2) = kx := by
        show (as.zip kx).map Prod.snd = kx
        exact List.map_snd_zip (by omega)
      rw [e] at this
      exact this
    have refs : outv.map (fun v => Value.ref (back v).1) = outv := by
      have e1 : outv.map id = outv.map (fun v => Value.ref (back v).1) := List.map_congr_left fun v hv => by
        obtain ⟨p, hp, rfl⟩ := at_ v (o2.perm.mem_iff.mp hv)
        show Value.ref p.1 = Value.ref (back (.ref p.1)).1
        rw [backat p hp]
      rw [List.map_id] at e1
      exact e1.symm
    have valsO : Vals ((outv.map back).map fun t => V.ref t.1) outv := by
      have hv : ∀ l : List Value, Vals (l.map fun v => V.ref (back v).1) (l.map fun v => Value.ref (back v).1) := fun l => by
        induction l with
        | nil => exact .nil
        | cons x l ih => exact .cons rfl ih
      have h2 := hv outv
      rw [refs] at h2
      rw [List.map_map]
      exact h2
    have fst1 : ((outv.map back).map (·.1)).Perm as := by
      have := permB.map (·.1)
      have e : kxA.map (·.1) = as := by
        show (as.zip kx).map Prod.fst = as
        exact List.map_fst_zip (by omega)
      rw [e] at this
      exact this
    have srt : SortedTx ((outv.map back).map (·.2)) := by
      unfold SortedTx
      rw [List.map_map, List.pairwise_map]
      refine List.Pairwise.imp_of_mem ?_ o1
      intro v u hv hu h
      obtain ⟨p, hp, rfl⟩ := at_ v (o2.perm.mem_iff.mp hv)
      obtain ⟨p', hp', rfl⟩ := at_ u (o2.perm.mem_iff.mp hu)
      show OlS.ltS (back (.ref p'.1)).2.1 (back (.ref p.1)).2.1 = false
      rw [backat p hp, backat p' hp']
      have h3 : OlS.ltS (tx (.ref p'.1)) (tx (.ref p.1)) = false := h
      rw [txat p hp, txat p' hp'] at h3
      exact h3
    have oldk : ∀ b o, h'.get? b = some o → (sortedHeap h2 h'.objs.size (as.map Value.ref) outv.toArray).get? b = some o := fun b o e => by
      have hlt := Heap.lt_size e
      rw [PyProof.Rows.sortedHeap_old (Nat.ne_of_lt hlt) (by rw [hs2]; exact Nat.lt_succ_of_lt hlt)]
      exact ka b o e
    have I1 : L2.Inv X pins σ H { s with heap := sortedHeap h2 h'.objs.size (as.map Value.ref) outv.toArray, toks := tk } := I.kept oldk
    have memA : ∀ t ∈ outv.map back, t.1 ∈ as := fun t ht => fst1.mem_iff.mp (List.mem_map.mpr ⟨t, ht, rfl⟩)
    have frA : ∀ a ∈ as, H a = none := fun a ha => I0.hok.fresh (hlo a ha)
    have nd1 : ((outv.map back).map (·.1)).Nodup := fst1.nodup_iff.mpr ndA
    have I2 := takeL I0 ((outv.map back).map pr2) H I1 (by rw [map_pr2]; exact nd1) fun p hp => by
      obtain ⟨t, ht, rfl⟩ := List.mem_map.mp hp
      have hm := permB.mem_iff.mp ht
      obtain ⟨j, h1, h2'⟩ := mem1 t hm
      obtain ⟨tk', u, ru, hg⟩ := pairs j t.1 t.2 h1 h2'
      refine ⟨hlo _ (List.mem_of_getElem? h1), frA _ (List.mem_of_getElem? h1), fun H2 => ⟨by show 2 ≤ sizeLine; decide, [Value.str t.2.1 tk', u], .cons ⟨tk', rfl⟩ (.cons ru .nil), _, oldk _ _ hg, rfl, 0, rfl⟩⟩
    have hD : H h'.objs.size = none := I0.hok.fresh hk
    have hDn : h'.objs.size ∉ (outv.map back).map (·.1) := fun hm => by
      obtain ⟨t, ht, e⟩ := List.mem_map.mp hm
      obtain ⟨j, h1, h2'⟩ := mem1 t (permB.mem_iff.mp ht)
      obtain ⟨_, _, _, hg⟩ := pairs j t.1 t.2 h1 h2'
      have := Heap.lt_size hg
      rw [e] at this
      exact Nat.lt_irrefl _ this
    have hD2 : putL H ((outv.map back).map pr2) h'.objs.size = none := by
      rw [putL_off _ _ (by rw [map_pr2]; exact hDn)]
      exact hD
    have lenO : ((outv.map back).map fun t => V.ref t.1).length ≤ sizeLine := by
      rw [List.length_map, List.length_map, lenP]
      exact hlen1
    have I3 := I2.take (h' := sortedHeap h2 h'.objs.size (as.map Value.ref) outv.toArray) (t' := tk) (it := h'.objs.size) (o := .lst ((outv.map back).map fun t => V.ref t.1)) (fun b ob _ e => e) (I0.fpOk hk hD2)
      ⟨lenO, outv, ep, valsO, he'⟩
    exact ⟨.ref h'.objs.size, _, I3, rfl, q (outv.map back) h'.objs.size ⟨hD, fun t ht => frA _ (memA t ht), List.nodup_cons.mpr ⟨hDn, nd1⟩⟩ perm2 srt⟩
end
end Ol
set_option Elab.async false
set_option linter.all false
set_option maxRecDepth 100000
set_option maxHeartbeats 4000000
/-! OlKit2: the further rules of the layer. -/
namespace Ol
open PySem L2 PySem.Spec
section
variable {X : Cx} {pins : List (Addr × Obj)} {σ : L2.St} {H : Hp} {s : Shared}

/-! ### zip(e, e2) of two lists -/
/-- the zip stands, over xs and ys -/
def ZAt (X : Cx) (pins : List (Addr × Obj)) (σ : L2.St) (xs ys : List V) (H : Hp) (z : Addr) (s : Shared) : Prop :=
  ∃ (TI TO i1 i2 l1 l2 : Addr) (ix iy : List Value), L2.Inv X pins σ H s ∧ ZipApart z TI TO i1 i2 l1 l2 ∧ OlZ.Zn z TI TO i1 i2 l1 l2 ix.toArray iy.toArray s.heap ∧ Vals xs ix ∧ Vals ys iy ∧ xs.length ≤ sizeLine ∧ ys.length ≤ sizeLine ∧
    (∀ b ∈ [z, TO, i1, i2], FpOk X pins H b)
/-- an expression that makes a zip of two lists -/
def PZp (X : Cx) (e : Expr) (ta : TA) : Prop := ∀ (pins : List (Addr × Obj)) (s : Shared) (σ : L2.St) (H : Hp) (R : List V → List V → Hp → Prop), L2.Inv X pins σ H s →
  ta σ H (fun vs H1 => ∃ a b xs ys, vs = [.ref a, .ref b] ∧ SqL X.K H1 a xs ∧ SqL X.K H1 b ys ∧ R xs ys H1) →
  wpAny (model X.prog X.w) X.A (eval e X.env) (fun v s' => ∃ z xs ys H1, v = Value.ref z ∧ ZAt X pins σ xs ys H1 z s' ∧ R xs ys H1) X.xe s
theorem pz_zip {e e2 : Expr} {ta : TA} {p pos : Pos} (hg : Gl X "zip") (hm : X.mg "zip" = none) (ha : PA X [e, e2] ta)
    (hs : starEach [e, e2] X.env = (false, eval e X.env) :: starEach [e2] X.env := by rfl) (hpl : (backTo pos (starEach [e2] X.env)).any (·.1) = false := by rfl) :
    PZp X (.Call (.Name "zip" p) [e, e2] [] pos) ta := by
  intro pins s σ H R I h
  refine PyProof.Rows.Call_ (ld_blt I hg hm PyProof.Rows.boot_zip (PyProof.Rows.callWith_type1 (thn (ha.run pos pins s σ H _ I h) fun us s1 ⟨vs, H1, I1, r1, q1⟩ => ?_) hs hpl))
  obtain ⟨a, b, xs, ys, ex, hqx, hqy, q⟩ := q1
  subst ex
  cases r1 with
  | cons r rr =>
    cases rr with
    | cons r' rr =>
      cases rr
      cases r
      cases r'
      obtain ⟨its, rv, p1, z1⟩ := I1.list hqx
      obtain ⟨its2, rv2, p2, z2⟩ := I1.list hqy
      have la : a < s1.heap.objs.size := p1.lt
      have lb : b < s1.heap.objs.size := p2.lt
      refine call_zip_2 p1.isList p2.isList fun h' hz hTI hTO h1 h2 hsz hk => ?_
      have I2 : L2.Inv X pins σ H1 { s1 with heap := h' } := I1.kept (t' := s1.toks) hk
      refine ⟨s1.heap.objs.size + 4, xs, ys, H1, rfl, ⟨s1.heap.objs.size + 2, s1.heap.objs.size + 3, s1.heap.objs.size, s1.heap.objs.size + 1, a, b, its, its2, I2, PySem.W.ktu_apart s1.heap.objs.size a b la lb,
        ⟨hTI, h1, h2, p1.isList.at fun o e => hk a o e, p2.isList.at fun o e => hk b o e, hz, _, _, hTO⟩, rv, rv2, z1, z2, fun c hcm => ?_⟩, q⟩
      have e' : c = s1.heap.objs.size + 4 ∨ c = s1.heap.objs.size + 3 ∨ c = s1.heap.objs.size ∨ c = s1.heap.objs.size + 1 := by simpa using hcm
      have hle : s1.heap.objs.size ≤ c := by
        rcases e' with z | z | z | z
        · rw [z]; exact Nat.le_add_right _ _
        · rw [z]; exact Nat.le_add_right _ _
        · rw [z]; exact Nat.le_refl _
        · rw [z]; exact Nat.le_add_right _ _
      exact I1.fpOk hle (I1.hok.fresh hle)

/-! ### new tuples and one more object -/
structure NewL (H : Hp) (l : Addr) (L : List (Addr × List V)) : Prop where
  fl : H l = none
  ft : ∀ t ∈ L, H t.1 = none
  nd : (l :: L.map (·.1)).Nodup
theorem PairsNew.newL {H : Hp} {l : Addr} {out : List (Addr × Str × V)} (h : PairsNew H l out) : NewL H l (out.map pr2) :=
  ⟨h.fl, fun t ht => by obtain ⟨u, hu, rfl⟩ := List.mem_map.mp ht; exact h.ft u hu, by rw [map_pr2]; exact h.nd⟩
def refsOf (L : List (Addr × List V)) : List V := L.map fun t => V.ref t.1
def zip2 (xs ys : List V) : List (List V) := (xs.zip ys).map fun p => [p.1, p.2]
/-- tuple(zip(..)): a new tuple of new pairs -/
def tTupZ (ta : TA) (K : PySem.W.Frag) : TE := fun σ H Q => ta σ H fun vs H1 => ∃ a b xs ys, vs = [.ref a, .ref b] ∧ SqL K H1 a xs ∧ SqL K H1 b ys ∧
  ∀ (L : List (Addr × List V)) p, NewL H1 p L → L.map (·.2) = zip2 xs ys → Q (.ref p) (upd (putL H1 L) p (.tup (refsOf L)))
theorem getElem?_zip2 {xs ys : List V} {j : Nat} {l : List V} (h : (zip2 xs ys)[j]? = some l) : ∃ x y, xs[j]? = some x ∧ ys[j]? = some y ∧ l = [x, y] := by
  unfold zip2 at h
  rw [List.getElem?_map] at h
  cases e : (xs.zip ys)[j]? with
  | none => rw [e] at h; cases h
  | some p =>
    rw [e] at h
    have := List.getElem?_zip_eq_some.mp e
    cases h
    exact ⟨p.1, p.2, this.1, this.2, rfl⟩
theorem zip_pairs {α β : Type} (as : List α) (bs : List β) (h : as.length = bs.length) : (as.zip bs).map (·.1) = as ∧ (as.zip bs).map (·.2) = bs :=
  ⟨List.map_fst_zip (by omega), List.map_snd_zip (by omega)⟩
theorem pe_tupZ {e : Expr} {ta : TA} {p pos : Pos} (hc : X.calm = true) (hg : Gl X "tuple") (hm : X.mg "tuple" = none) (he : PZp X e ta) (na : starEach [e] X.env = (false, eval e X.env) :: starEach [] X.env := by rfl) :
    PE X (.Call (.Name "tuple" p) [e] [] pos) (tTupZ ta X.K) := by
  refine ⟨fun pins s σ H Q I h => ?_⟩
  refine PyProof.Rows.Call_ (ld_blt I hg hm PyProof.Rows.boot_tuple (PyProof.Rows.callWith_type1 (PyProof.Rows.args_cons (thn (he pins s σ H (fun xs ys H1 => ∀ (L : List (Addr × List V)) p, NewL H1 p L → L.map (·.2) = zip2 xs ys → Q (.ref p) (upd (putL H1 L) p (.tup (refsOf L)))) I h) fun x s1 ⟨z, xs, ys, H1, ex, Z, q⟩ => PyProof.Rows.args_nil ?_) na) na))
  subst ex
  obtain ⟨TI, TO, i1, i2, l1, l2, ix, iy, I1, D, Zn, rx, ry, zx, zy, fp⟩ := Z
  refine OlZ.call_tupleZ (I1.ok.hd hc) D Zn (by rw [List.size_toArray, ← rx.length]; exact zx) fun h' tk as hk hlt hl hG => ?_
  rw [List.size_toArray, List.size_toArray, ← rx.length, ← ry.length] at hl
  have I2 : L2.Inv X pins σ H1 { s1 with heap := h', toks := tk } := I1.turnedL (ch := [z, TO, i1, i2]) (fun b o hb e => hk b o (fun c => hb (by simp [c])) (fun c => hb (by simp [c])) (fun c => hb (by simp [c])) (fun c => hb (by simp [c])) e) fp
  have hlen : as.length = (zip2 xs ys).length := by unfold zip2; rw [List.length_map, List.length_zip]; exact hl
  have ndA : as.Nodup := List.Pairwise.imp (fun h => Nat.ne_of_lt h) hG.rise
  obtain ⟨e1, e2⟩ := zip_pairs as (zip2 xs ys) hlen
  have hlo : ∀ a ∈ as, s1.heap.objs.size ≤ a := fun a ha => Nat.le_of_lt (hG.above a ha)
  have pairs : ∀ p ∈ as.zip (zip2 xs ys), ∃ us, Vals p.2 us ∧ h'.get? p.1 = some { cls := .type "tuple", data := .seq us.toArray } ∧ p.2.length = 2 := fun p hp => by
    obtain ⟨j, hj⟩ := List.mem_iff_getElem?.mp hp
    have hz := List.getElem?_zip_eq_some.mp hj
    obtain ⟨u, v, hu, hv, hg⟩ := hG.pairs j p.1 hz.1
    obtain ⟨x, y, hx, hy, el⟩ := getElem?_zip2 hz.2
    obtain ⟨u', hu', ru⟩ := rx.get hx
    obtain ⟨v', hv', rv⟩ := ry.get hy
    have eu : u = u' := by rw [List.getElem?_toArray] at hu; exact Option.some.inj (hu.symm.trans hu')
    have ev : v = v' := by rw [List.getElem?_toArray] at hv; exact Option.some.inj (hv.symm.trans hv')
    subst eu ev
    rw [el]
    exact ⟨[u, v], .cons ru (.cons rv .nil), hg, rfl⟩
  have kp2 : ∀ b o, h'.get? b = some o → (h'.push { cls := .type "tuple", data := .seq (as.map Value.ref).toArray }).get? b = some o := fun b o e => Heap.get?_push_of_some _ e
  have I3 : L2.Inv X pins σ H1 { s1 with heap := h'.push { cls := .type "tuple", data := .seq (as.map Value.ref).toArray }, toks := tk } := I2.kept (t' := tk) kp2
  have I4 := takeL I1 (as.zip (zip2 xs ys)) H1 I3 (by rw [e1]; exact ndA) fun p hp => by
    obtain ⟨us, rv, hg, len2⟩ := pairs p hp
    have ha : p.1 ∈ as := (List.of_mem_zip (a := p.1) (b := p.2) hp).1
    exact ⟨hlo _ ha, I1.hok.fresh (hlo _ ha), fun H2 => ⟨by rw [len2]; decide, us, rv, _, kp2 _ _ hg, rfl, 0, rfl⟩⟩
  have hDn : h'.objs.size ∉ (as.zip (zip2 xs ys)).map (·.1) := fun hm => by
    obtain ⟨t, ht, e⟩ := List.mem_map.mp hm
    obtain ⟨_, _, hg, _⟩ := pairs t ht
    have := Heap.lt_size hg
    rw [e] at this
    exact Nat.lt_irrefl _ this
  have hDf : H1 h'.objs.size = none := I1.hok.fresh (Nat.le_of_lt hlt)
  have hD2 : putL H1 (as.zip (zip2 xs ys)) h'.objs.size = none := by rw [putL_off _ _ hDn]; exact hDf
  have hDg : (h'.push { cls := .type "tuple", data := .seq (as.map Value.ref).toArray }).get? h'.objs.size = some { cls := .type "tuple", data := .seq (as.map Value.ref).toArray } := Heap.get?_push_size _ rfl
  have elt : refsOf (as.zip (zip2 xs ys)) = as.map V.ref := by
    unfold refsOf
    have := congrArg (List.map V.ref) e1
    rw [List.map_map] at this
    exact this
  have I5 := I4.take (h' := h'.push { cls := .type "tuple", data := .seq (as.map Value.ref).toArray }) (t' := tk) (it := h'.objs.size) (o := .tup (refsOf (as.zip (zip2 xs ys)))) (fun b ob _ e => e) (I1.fpOk (Nat.le_of_lt hlt) hD2)
    ⟨by rw [elt, List.length_map, hl]; exact Nat.le_trans (Nat.min_le_left ..) zx, as.map Value.ref, by rw [elt]; exact LiI.vals_refs as, _, hDg, rfl, 0, rfl⟩
  exact ⟨.ref h'.objs.size, _, I5, rfl, q (as.zip (zip2 xs ys)) h'.objs.size ⟨hDf, fun t ht => I1.hok.fresh (hlo _ (List.of_mem_zip (a := t.1) (b := t.2) ht).1), List.nodup_cons.mpr ⟨hDn, by rw [e1]; exact ndA⟩⟩ e2⟩
/-- sorted(zip(names, values)): a new list of new pairs, by the names -/
def RSrtZ (Q : VK) : List V → List V → Hp → Prop := fun xs ys H1 => ∃ ns : List Str, xs = ns.map V.str ∧ ns.Nodup ∧ ns.length = ys.length ∧
  ∀ (out : List (Addr × Str × V)) (l : Addr), PairsNew H1 l out → (out.map (fun t => t.2)).Perm (ns.zip ys) → SortedTx (out.map (fun t => t.2)) → Q (.ref l) (newPairs H1 l out)
def tSrtZ (ta : TA) (K : PySem.W.Frag) : TE := fun σ H Q => ta σ H fun vs H1 => ∃ a b xs ys, vs = [.ref a, .ref b] ∧ SqL K H1 a xs ∧ SqL K H1 b ys ∧ RSrtZ Q xs ys H1
theorem boot_sorted' : bootBuiltins "sorted" = some (.builtin "sorted") := by decide +kernel
theorem pe_srtZ {e : Expr} {ta : TA} {p pos : Pos} (hc : X.calm = true) (hg : Gl X "sorted") (hm : X.mg "sorted" = none) (he : PZp X e ta) (na : starEach [e] X.env = (false, eval e X.env) :: starEach [] X.env := by rfl) :
    PE X (.Call (.Name "sorted" p) [e] [] pos) (tSrtZ ta X.K) := by
  refine ⟨fun pins s σ H Q I h => ?_⟩
  refine PyProof.Rows.Call_ (ld_blt I hg hm boot_sorted' (PyProof.Rows.callWith_builtin1 (PyProof.Rows.args_cons (thn (he pins s σ H (RSrtZ Q) I h) fun x s1 ⟨z, xs, ys, H1, ex, Z, ns, exn, nd, eln, q⟩ => PyProof.Rows.args_nil ?_) na) na))
  subst ex
  obtain ⟨TI, TO, i1, i2, l1, l2, ix, iy, I1, D, Zn, rx, ry, zx, zy, fp⟩ := Z
  subst exn
  rw [List.length_map] at zx
  refine OlZ.sortedZ (I1.ok.hd hc) D Zn (by rw [List.size_toArray, ← rx.length, List.length_map]; exact zx) fun h' tk as hk hlt hl hG => ?_
  rw [List.size_toArray, List.size_toArray, ← rx.length, ← ry.length, List.length_map] at hl
  have I2 : L2.Inv X pins σ H1 { s1 with heap := h', toks := tk } := I1.turnedL (ch := [z, TO, i1, i2]) (fun b o hb e => hk b o (fun c => hb (by simp [c])) (fun c => hb (by simp [c])) (fun c => hb (by simp [c])) (fun c => hb (by simp [c])) e) fp
  have z1 : (ns.zip ys).map (·.1) = ns := List.map_fst_zip (by omega)
  refine sort_collected I1 I2 (I1.ok.hd hc) (Nat.le_of_lt hlt) (fun a ha => Nat.le_of_lt (hG.above a ha)) hG.rise (by rw [List.length_zip]; exact hl) (by rw [List.length_zip]; exact Nat.le_trans (Nat.min_le_left ..) zx) (fun j a e0 hja hje => ?_) (by rw [z1]; exact nd) q
  obtain ⟨u, v, hu, hv, hg⟩ := hG.pairs j a hja
  have hz := List.getElem?_zip_eq_some.mp hje
  obtain ⟨u', hu', ru⟩ := rx.get (show (ns.map V.str)[j]? = some (V.str e0.1) by rw [List.getElem?_map, hz.1]; rfl)
  obtain ⟨v', hv', rv⟩ := ry.get hz.2
  have eu : u = u' := by rw [List.getElem?_toArray] at hu; exact Option.some.inj (hu.symm.trans hu')
  have ev : v = v' := by rw [List.getElem?_toArray] at hv; exact Option.some.inj (hv.symm.trans hv')
  subst eu ev
  obtain ⟨t, rfl⟩ := ru
  exact ⟨t, v, rv, hg⟩

/-! ### a tuple whose own object is known: made by tuple(list) -/
def PlTup (o : Obj) : Prop := o.cls = .type "tuple" ∧ o.dict = none
theorem call_tupleF : CallR X (.type "tuple") (fun xs H Q => ∃ p ys, xs = [.ref p] ∧ SqL X.K H p ys ∧ ∀ l o, PlTup o → H l = none → Q (.ref l) (upd H l (.frz o (.tup ys)))) := by
  intro pins s σ H xs us Q I r h
  obtain ⟨p, ys, rfl, hq, q⟩ := h
  obtain ⟨u, rfl, rx⟩ := vals1 r
  cases rx
  obtain ⟨its, r', pl, hz⟩ := I.list hq
  have hlen := r'.length
  refine call_tuple_list pl.isList (fun h' kp => ?_) (by simp only [List.size_toArray] <;> omega)
  have I1 : L2.Inv X pins σ H { s with heap := h' } := I.kept (t' := s.toks) kp
  have hg : (h'.push { cls := .type "tuple", data := .seq its.toArray }).get? h'.objs.size = some { cls := .type "tuple", data := .seq its.toArray } := Heap.get?_push_size _ rfl
  have I2 : L2.Inv X pins σ (upd H h'.objs.size (.frz { cls := .type "tuple", data := .seq its.toArray } (.tup ys))) { s with heap := h'.push { cls := .type "tuple", data := .seq its.toArray } } :=
    I1.laid (t' := s.toks) (fun b o e => Heap.get?_push_of_some _ e) (Nat.le_refl _) (show ObjOk X.prog X.w _ _ _ (.frz { cls := .type "tuple", data := .seq its.toArray } (.tup ys)) from ⟨hg, hz, its, r', _, hg, rfl, 0, rfl⟩)
  exact ⟨.ref h'.objs.size, _, I2, rfl, q _ _ ⟨rfl, rfl⟩ (I1.hok.fresh (Nat.le_refl _))⟩

/-! ### dict(..) of pairs -/
theorem pairs_raw (I : L2.Inv X pins σ H s) : ∀ {ps : List Addr} {kvs : List (L2.Key × V)}, Paired (fun p kv => SqT X.K H p [kV kv.1, kv.2]) ps kvs →
    ∃ (prs : List (L2.Key × Value)) (raw : List (Value × Value)), KV kvs prs ∧ raw.length = ps.length ∧ prs.length = ps.length ∧
      ∀ (j : Nat) (k v : Value), raw[j]? = some (k, v) → ∃ (b : Addr) (key : L2.Key), ps[j]? = some b ∧ s.heap.IsTuple b #[k, v] ∧ prs[j]? = some (key, v) ∧ keyIs key k = true
  | _, _, .nil => ⟨[], [], .nil, rfl, rfl, fun j k v e => by simp at e⟩
  | _, _, .cons (a := p) (b := kv) h t => by
    obtain ⟨prs, raw, r, h1, h2, hp⟩ := pairs_raw I t
    obtain ⟨its, rv, ht, _⟩ := I.tuple h
    obtain ⟨u, y, ei, ru, ry⟩ := vals2 rv
    subst ei
    refine ⟨(kv.1, y) :: prs, (u, y) :: raw, .cons ⟨rfl, ry⟩ r, by rw [List.length_cons, List.length_cons, h1], by rw [List.length_cons, List.length_cons, h2], fun j k v e => ?_⟩
    cases j with
    | zero =>
      have e' : (u, y) = (k, v) := Option.some.inj e
      cases e'
      exact ⟨p, kv.1, rfl, ht, rfl, kV_is (P := X.prog) (w := X.w) ru⟩
    | succ j =>
      obtain ⟨b, key, e1, e2, e3, e4⟩ := hp j k v (by simpa using e)
      exact ⟨b, key, by simpa using e1, e2, by simpa using e3, e4⟩
/-- dict(t), t a tuple of pairs (key, value) -/
theorem call_dictT (hcalm : X.calm = true) : CallR X (.type "dict") (fun xs H Q => ∃ (a : Addr) (o : Obj) (ps : List Addr) (kvs : List (L2.Key × V)), xs = [.ref a] ∧ H a = some (.frz o (.tup (ps.map V.ref))) ∧ PlTup o ∧ Paired (fun p kv => SqT X.K H p [kV kv.1, kv.2]) ps kvs ∧
    ∀ p, H p = none → Q (.ref p) (upd H p (.dK (mergeK [] kvs)))) := by
  intro pins s σ H xs us Q I r q
  obtain ⟨a, o, ps, kvs, ex, hq, ho, hp, q⟩ := q
  subst ex
  obtain ⟨u, eu, rx⟩ := vals1 r
  subst eu
  cases rx
  obtain ⟨hg, hz, its, rv, o', hg', hc', n, hd'⟩ := I.hok a _ hq
  have eo : o' = o := Option.some.inj (hg'.symm.trans hg)
  subst eo
  have ei := refs_at rv
  subst ei
  rw [List.length_map] at hz
  obtain ⟨prs, raw, rel, h1, h2, hpr⟩ := pairs_raw I hp
  have hm : (s.heap.objs.size == sysModules) = false := beq_eq_false_iff_ne.mpr (Nat.ne_of_gt I.big)
  have hlen : (mergeK [] kvs).length ≤ sizeLine := by
    refine Nat.le_trans (length_mergeK kvs []) ?_
    rw [List.length_nil, Nat.zero_add, rel.length, h2]
    exact hz
  refine PySem.call_dict_pairs (knd := mixKind X.prog X.w) (kvs := prs) (PairArg.tuple a (ps.map Value.ref).toArray (fun j => ps.getD j 0) raw) (I.ok.hd hcalm) ⟨⟨o', n, hg, ho.1, ho.2, hd'⟩, by rw [List.size_toArray, List.length_map, h1], fun j k v e => ?_⟩ ⟨h2.trans h1.symm, fun j k v e => ?_⟩ (by rw [h1]; exact hz) fun h' tk hdd hk => ?_
  · obtain ⟨b, key, e1, e2, _, _⟩ := hpr j k v e
    have e3 : ps.getD j 0 = b := by rw [List.getD_eq_getElem?_getD, e1]; rfl
    show (List.map Value.ref ps).toArray[j]? = some (Value.ref (ps.getD j 0)) ∧ PairAt s.heap (ps.getD j 0) k v
    rw [e3]
    exact ⟨by simp [e1], .inl e2⟩
  · obtain ⟨b, key, e1, e2, e3, e4⟩ := hpr j k v e
    exact ⟨key, e3, (mixKind_is _ _ _ _).trans e4⟩
  · exact ⟨.ref s.heap.objs.size, upd H s.heap.objs.size (.dK (mergeK [] kvs)), I.laid (t' := tk) (fun b o e => hk b o (fun z => nomatch z) e) (Nat.le_refl _) (show ObjOk X.prog X.w _ _ _ (.dK (mergeK [] kvs)) from ⟨hlen, hm, merged [] prs, KV.merge rel .nil, hdd⟩), rfl, q _ (I.hok.fresh (Nat.le_refl _))⟩
/-- dict(zip(names, values)) -/
def RDicZ (Q : VK) : List V → List V → Hp → Prop := fun xs ys H1 => ∃ ns : List Str, xs = ns.map V.str ∧ ns.length = ys.length ∧
  ∀ p, H1 p = none → Q (.ref p) (upd H1 p (.dK (mergeK [] ((ns.map Sum.inr).zip ys))))
def tDicZ (ta : TA) (K : PySem.W.Frag) : TE := fun σ H Q => ta σ H fun vs H1 => ∃ a b xs ys, vs = [.ref a, .ref b] ∧ SqL K H1 a xs ∧ SqL K H1 b ys ∧ RDicZ Q xs ys H1
theorem kv_zip : ∀ {ns : List Str} {ys : List V} {ix iy : List Value}, Vals (ns.map V.str) ix → Vals ys iy → ns.length = ys.length →
    KV ((ns.map (Sum.inr (α := Int))).zip ys) ((ns.map Sum.inr).zip iy)
  | [], _, _, _, _, _, _ => .nil
  | n :: ns, [], _, _, _, _, h => by simp at h
  | n :: ns, y :: ys, _, _, .cons r rx, .cons r2 ry, h => .cons ⟨rfl, r2⟩ (kv_zip rx ry (by simpa using h))
theorem pe_dicZ {e : Expr} {ta : TA} {p pos : Pos} (hc : X.calm = true) (hg : Gl X "dict") (hm : X.mg "dict" = none) (hv : bootBuiltins "dict" = some (.type "dict")) (he : PZp X e ta) (na : starEach [e] X.env = (false, eval e X.env) :: starEach [] X.env := by rfl) :
    PE X (.Call (.Name "dict" p) [e] [] pos) (tDicZ ta X.K) := by
  refine ⟨fun pins s σ H Q I h => ?_⟩
  refine PyProof.Rows.Call_ (ld_blt I hg hm hv (PyProof.Rows.callWith_type1 (PyProof.Rows.args_cons (thn (he pins s σ H (RDicZ Q) I h) fun x s1 ⟨z, xs, ys, H1, ex, Z, ns, exn, eln, q⟩ => PyProof.Rows.args_nil ?_) na) na))
  subst ex
  obtain ⟨TI, TO, i1, i2, l1, l2, ix, iy, I1, D, Zn, rx, ry, zx, zy, fp⟩ := Z
  subst exn
  rw [List.length_map] at zx
  have lx := rx.length
  have ly := ry.length
  rw [List.length_map] at lx
  have hm : (s1.heap.objs.size == sysModules) = false := beq_eq_false_iff_ne.mpr (Nat.ne_of_gt I1.big)
  have rel := kv_zip rx ry eln
  have hlen : (mergeK [] ((ns.map (Sum.inr (α := Int))).zip ys)).length ≤ sizeLine := by
    refine Nat.le_trans (length_mergeK _ []) ?_
    rw [List.length_nil, Nat.zero_add, List.length_zip, List.length_map]
    exact Nat.le_trans (Nat.min_le_left ..) zx
  obtain ⟨a1, a2, a3, a4, a5, a6, a7⟩ := Zn
  refine PySem.call_dict_pairs (knd := mixKind X.prog X.w) (kvs := (ns.map Sum.inr).zip iy) (PairArg.zip z TI TO i1 i2 l1 l2 D ix.toArray iy.toArray) (I1.ok.hd hc) ⟨a6, a1, a7, a2, a3, a4, a5⟩ ⟨?_, fun j k v e => ?_⟩ ?_ fun h' tk hdd hk => ?_
  · rw [List.length_zip, List.length_map, List.size_toArray, List.size_toArray]; omega
  · have e : ix.toArray[j]? = some k ∧ iy.toArray[j]? = some v := e
    rw [List.getElem?_toArray, List.getElem?_toArray] at e
    have hj : j < ns.length := by rw [lx]; exact (List.getElem?_eq_some_iff.mp e.1).1
    obtain ⟨u, hu, ru⟩ := rx.get (show (ns.map V.str)[j]? = some (V.str ns[j]) by rw [List.getElem?_map, List.getElem?_eq_getElem hj]; rfl)
    have eu : u = k := Option.some.inj (hu.symm.trans e.1)
    subst eu
    refine ⟨Sum.inr ns[j], List.getElem?_zip_eq_some.mpr ⟨by rw [List.getElem?_map, List.getElem?_eq_getElem hj]; rfl, e.2⟩, kV_is (P := X.prog) (w := X.w) (k := Sum.inr ns[j]) ru⟩
  · rw [List.size_toArray, List.size_toArray]; omega
  · have I2 : L2.Inv X pins σ H1 { s1 with heap := h', toks := tk } := I1.turnedL (ch := [z, TO, i1, i2]) (fun b o hb e => hk b o hb e) fp
    have lt1 : s1.heap.objs.size < h'.objs.size := by
      obtain ⟨o, es, ep, ho, _⟩ := hdd
      exact Heap.lt_size ho
    have J := I2.take (h' := h') (t' := tk) (it := s1.heap.objs.size) (o := .dK (mergeK [] ((ns.map (Sum.inr (α := Int))).zip ys))) (fun b ob _ e => e) (I1.fpOk (Nat.le_refl _) (I1.hok.fresh (Nat.le_refl _)))
      (show ObjOk X.prog X.w _ _ _ (.dK _) from ⟨hlen, hm, _, KV.merge rel .nil, hdd⟩)
    exact ⟨.ref s1.heap.objs.size, _, J, rfl, q _ (I1.hok.fresh (Nat.le_refl _))⟩

/-! ### sorted(d.items()), text keys -/
def tSrtI (te : TE) : TE := fun σ H Q => te σ H fun x H1 => ∃ (d : Addr) (kx : List (Str × V)), x = .ref d ∧ H1 d = some (.dK (kx.map fun p => (Sum.inr p.1, p.2))) ∧ (kx.map (·.1)).Nodup ∧
  ∀ (out : List (Addr × Str × V)) (l : Addr), PairsNew H1 l out → (out.map (fun t => t.2)).Perm kx → SortedTx (out.map (fun t => t.2)) → Q (.ref l) (newPairs H1 l out)
theorem kv_back : ∀ {kx : List (Str × V)} {vs : List (L2.Key × Value)}, KV (kx.map fun p => ((Sum.inr p.1 : L2.Key), p.2)) vs → ∀ {j : Nat} {q : L2.Key × Value}, vs[j]? = some q → ∃ p, kx[j]? = some p ∧ q.1 = Sum.inr p.1 ∧ RelV p.2 q.2
  | [], _, .nil, j, q, e => by simp at e
  | p :: kx, _, .cons r t, j, q, e => by
    cases j with
    | zero =>
      have e' := Option.some.inj (show some _ = some q from e)
      subst e'
      exact ⟨p, rfl, r.1.symm, r.2⟩
    | succ j =>
      obtain ⟨p', h1, h2⟩ := kv_back t (j := j) (by simpa using e)
      exact ⟨p', by simpa using h1, h2⟩
theorem pe_srtItems {e : Expr} {te : TE} {p apos cpos pos : Pos} (hc : X.calm = true) (he : PE X e te) (hg : Gl X "sorted") (hm : X.mg "sorted" = none) (hbase : attributeBase e "items" X.env (eval e X.env) = eval e X.env := by rfl) (hline : (apos.endLine == cpos.line) = true := by rfl)
    (hs : starEach [.Call (.Attribute e "items" apos) [] [] cpos] X.env = (false, eval (.Call (.Attribute e "items" apos) [] [] cpos) X.env) :: starEach [] X.env := by rfl) :
    PE X (.Call (.Name "sorted" p) [.Call (.Attribute e "items" apos) [] [] cpos] [] pos) (tSrtI te) := by
  refine ⟨fun pins s σ H Q I hq => ?_⟩
  refine wpAny_Call_Name_kw (ld_blt I hg hm boot_sorted' ?_)
  refine PyProof.Rows.callWith_builtin1 ?_ hs rfl
  rw [hs]
  show wpAny _ _ (spliced ((false, eval (.Call (.Attribute e "items" apos) [] [] cpos) X.env) :: backTo pos (starEach [] X.env))) _ _ s
  refine Calls.spliced_cons ?_
  refine wpAny_Call_method (T := "dict") (id := "dict.items") hbase rfl hline F.plainAttrs_dict F.slot_dict_items F.type_dict_items (thn (he.run pins s σ H _ I hq) fun u s1 ⟨x, H1, I1, rx, d, kx, ex, hd, nd, q⟩ => ?_)
  subst ex
  obtain rfl : u = Value.ref d := rx
  obtain ⟨hz, hs0, vs, kv, hdo⟩ := I1.hok d _ hd
  have lk : (kx.map fun p => ((Sum.inr p.1 : L2.Key), p.2)).length = vs.length := Paired.length kv
  rw [List.length_map] at lk hz
  have I2 : L2.Inv X pins σ H1 { s1 with heap := s1.heap.push { cls := .type "dict_items", data := .fields #[.ref d] } } := I1.kept (t' := s1.toks) fun b ob q => Heap.get?_push_of_some _ q
  refine ⟨hdo.typeIs, hdo.mapOf.noDict, ?_⟩
  show wpAny _ _ (callWith cpos (.builtin "dict.items") [.ref d] [] []) _ X.xe s1
  refine method_meetsIn F.slot_dict_items F.entry_dict_items rfl (PySem.evalArgs_none ⟨rfl, hdo.typeIs, F.args_dict_items_1 _, _, meets_dict_items (mixKind X.prog X.w) d hs0, ⟨vs, hdo⟩, ?_⟩)
  refine Calls.spliced_nil ?_
  obtain ⟨o, es, ep, ho, hx, hdat, hks, hes, hrest⟩ := id hdo
  have szes : es.size = vs.length := by rw [← Array.length_toList]; exact hes.length
  refine DT.sortedI (s := { s1 with heap := s1.heap.push { cls := .type "dict_items", data := .fields #[.ref d] } }) (d := d) (es := es) (ep := ep) (I1.ok.hd hc) ⟨_, Heap.get?_push_size _ rfl, rfl, rfl⟩ ⟨o, Heap.get?_push_of_some _ ho, hx, hdat⟩ (by rw [szes, ← lk]; exact hz) fun h' tk as hk hlt hl hG => ?_
  have I3 : L2.Inv X pins σ H1 { s1 with heap := h', toks := tk } := I2.kept (t' := tk) hk
  refine sort_collected I2 I3 (I1.ok.hd hc) (Nat.le_of_lt hlt) (fun a ha => Nat.le_of_lt (hG.above a ha)) hG.rise (by rw [hl, szes, lk]) hz (fun j a e0 hja hje => ?_) nd q
  obtain ⟨en, he0, hg0⟩ := hG.pairs j a hja
  have he1 : es.toList[j]? = some en := by rw [← he0]; simp
  have hjv : j < vs.length := by rw [← hes.length]; exact (List.getElem?_eq_some_iff.mp he1).1
  have hv := List.getElem?_eq_getElem hjv
  obtain ⟨pp, h1, h2, h3⟩ := kv_back kv hv
  have ep2 : pp = e0 := Option.some.inj (h1.symm.trans hje)
  subst ep2
  obtain ⟨g1, g2⟩ := hes.get? he1 (show vs[j]? = some (vs[j].1, vs[j].2) from hv)
  rw [h2] at g1
  obtain ⟨t, et⟩ : ∃ t, en.key = Value.str pp.1 t := relV_key (k := Sum.inr pp.1) ((mixKind_is _ _ _ _).symm.trans g1)
  exact ⟨t, en.val, by rw [g2]; exact h3, by rw [← et]; exact hg0⟩

/-! ### set(t), t a tuple of ints; list(text); tuple * 0, 1; sum(tuple); sorted of a list of one; stores -/
theorem call_setT (hc : X.calm = true) : CallR X (.type "set") (fun xs H Q => ∃ (a : Addr) (ns : List Int), xs = [.ref a] ∧ SqT X.K H a (ns.map V.int) ∧ ns.length ≤ 1000 ∧
    ∀ p c, c ≤ ns.length → H p = none → Q (.ref p) (upd H p (SetO X.w p (fun j => decide (j ∈ ns)) c))) := by
  intro pins s σ H xs us Q I r h
  obtain ⟨a, ns, rfl, hq, hl, q⟩ := h
  cases r with
  | cons r rr =>
    cases rr
    cases r
    obtain ⟨its, rv, pt, hz⟩ := I.tuple hq
    have hi : PyProof.Rows.IntsAre its.toArray.toList ns := ints_of_vals rv
    refine call_set_tupI ns (I.ok.hd hc) (show s.heap.IsTuple a its.toArray from pt) hi (by unfold scanBound; omega) fun h' tk c R1 hcn k => ?_
    exact ⟨.ref s.heap.objs.size, _, I.laid (t' := tk) k (Nat.le_refl _) (setO_new R1), rfl, q _ c hcn (I.hok.fresh (Nat.le_refl _))⟩
/-- the signs of a text -/
def signs (x : Str) : List Str := x.cps.toList.map fun c => ⟨#[c]⟩
theorem call_listStr (hc : X.calm = true) : CallR X (.type "list") (fun xs H Q => ∃ z : Str, xs = [.str z] ∧ z.cps.size ≤ sizeLine ∧ ∀ p, H p = none → Q (.ref p) (upd H p (.lst ((signs z).map V.str)))) := by
  intro pins s σ H xs us Q I r h
  obtain ⟨z, rfl, hz, q⟩ := h
  cases r with
  | cons r rr =>
    cases rr
    obtain ⟨t, rfl⟩ := r
    refine call_list_str (I.ok.hd hc) z t (fun h' tk acc c hk hg hacc => ?_) hz
    have hlen : ((signs z).map V.str).length = z.cps.size := by unfold signs; simp
    have hv : Vals ((signs z).map V.str) acc.toList := by
      refine vals_of_at (by rw [hlen, Array.length_toList, hacc.1]) fun j x u hx hu => ?_
      have hj : j < z.cps.size := by rw [← hlen]; exact (List.getElem?_eq_some_iff.mp hx).1
      rw [Array.getElem?_toList] at hu
      obtain ⟨c', u', hc', eu⟩ := hacc.2 j u hu
      have hx' : ((signs z).map V.str)[j]? = some (V.str ⟨#[c']⟩) := by
        unfold signs
        rw [List.getElem?_map, List.getElem?_map, Array.getElem?_toList, hc']
        rfl
      rw [hx'] at hx
      cases hx
      exact ⟨u', eu⟩
    exact ⟨.ref s.heap.objs.size, _, I.laid (t' := tk) hk (Nat.le_refl _) (show ObjOk X.prog X.w _ _ _ (.lst _) from ⟨by rw [hlen]; exact hz, acc.toList, c, hv, by simpa using hg⟩), rfl, q _ (I.hok.fresh (Nat.le_refl _))⟩
/-- sorted of a list of one item or none -/
theorem cr_sorted1 : CallR X (.builtin "sorted") (fun vs H Q => ∃ (a : Addr) (xs : List V), vs = [V.ref a] ∧ SqL X.K H a xs ∧ xs.length ≤ 1 ∧ ∀ p, H p = none → Q (.ref p) (upd H p (.lst xs))) := by
  intro pins s σ H vs us Q I r h
  obtain ⟨a, xs, rfl, hs, h1, q⟩ := h
  obtain ⟨its, rv, hl, hz⟩ := I.list hs
  rw [Vals.ref1 r]
  have hlen := rv.length
  refine SrtO.sorted_ord SrtO.swo_int hl.isList (by rw [← rv.length]; exact hz) (fun h2 => by omega) fun out h1' h2 => ?_
  have eo : out = its := by
    have hp := h2.perm
    match its, hp, hlen with
    | [], hp, _ => exact List.perm_nil.mp hp
    | [x], hp, _ => exact List.perm_singleton.mp hp
    | _ :: _ :: _, _, hlen => rw [hlen] at h1; simp at h1
  subst eo
  obtain ⟨ep, he'⟩ := PyProof.Rows.sortedAll_at s.heap out out.toArray
  exact ⟨.ref _, upd H (s.heap.objs.size + 1) (.lst xs), I.laid (t' := s.toks) (fun _ _ => PyProof.Rows.sortedAll_old) (Nat.le_succ _) ⟨hz, out, ep, rv, he'⟩, rfl, q _ (I.hok.fresh (Nat.le_succ _))⟩
/-- d[k] = v, by values, keys ints and texts -/
def rSetD : V → V → V → Hp → (Hp → Prop) → Prop := fun o i v H Q => ∃ d kvs k, o = .ref d ∧ i = kV k ∧ H d = some (.dK kvs) ∧ kvs.length < sizeLine ∧ Q (upd H d (.dK (putK kvs k v)))
theorem set_dK (hu : X.A.units + 1 < cLine) : PSet X rSetD := by
  intro pins s σ H o i v ov iv u Q I ro ri rv h
  obtain ⟨d, kvs, k, rfl, rfl, hd, hl, q⟩ := h
  cases ro
  exact d_setItem hu I (DPut.k hd hl) ri rv fun s' I' => ⟨_, I', q⟩

/-- sum of a tuple of ints -/
theorem cr_sumT (hc : X.calm = true) : CallR X (.builtin "sum") (fun vs H Q => ∃ (a : Addr) (ns : List Int), vs = [V.ref a] ∧ SqT X.K H a (ns.map V.int) ∧ Q (.int ns.sum) H) := by
  intro pins s σ H vs us Q I r h
  obtain ⟨a, ns, rfl, hs, q⟩ := h
  obtain ⟨its, rv, ht, hz⟩ := I.tuple hs
  rw [Vals.ref1 r]
  have hi := rv.ints
  obtain ⟨xs, e⟩ := hi.allInts.items
  have hn : numsOf (intItems xs).toList = ns := by rw [← e]; exact hi.numsOf
  rw [nums_intItems] at hn
  have ht' : s.heap.IsTuple a (intItems xs) := by rw [← e]; exact ht
  have hlt : a < s.heap.objs.size := by obtain ⟨_, e, _⟩ := ht'; exact Heap.lt_size e
  refine call_sum_walkG (wpAny_pyIter_tuple ht' ?_)
  refine ⟨_, _, _, _, _, _, numAt xs, rfl, Walks.tuple (A := X.A.in1) (I.ok.hd hc) s.heap.objs.size a (Nat.ne_of_lt hlt) (intItems xs), ⟨⟨_, Heap.get?_push_size _ rfl, rfl, rfl⟩, let ⟨o, ho, x⟩ := ht'; ⟨o, Heap.get?_push_of_some _ ho, x⟩⟩, fun b hb => ?_, (fun _ _ => intItems_at), fun h' tk t' hk => ?_⟩
  · show b < (s.heap.push _).objs.size
    rw [Heap.size_push]
    rcases List.mem_cons.mp hb with rfl | hb
    · exact Nat.lt_succ_self _
    · rw [List.mem_singleton.mp hb]; exact Nat.lt_succ_of_lt hlt
  · have k2 : ∀ b o, s.heap.get? b = some o → h'.get? b = some o := fun b o e => hk b o (fun hb => Nat.ne_of_lt (Heap.lt_size e) (List.mem_singleton.mp hb)) (Heap.get?_push_of_some _ e)
    have ev : preSum (numAt xs) (intItems xs).size = ns.sum := by
      have : (intItems xs).size = xs.size := by simp [intItems]
      rw [this, preSum_eq, List.take_of_length_le (by simp), hn]
    rw [ev]
    exact ⟨.int ns.sum, H, I.kept (t' := tk) k2, ⟨t', rfl⟩, q⟩
end
/-! tuple * 0, tuple * 1 -/
theorem tuple_mul1 (l : Addr) (items : Array Value) (n : Nat) (dd : Option Addr) (sl : Array (Option Value)) (u : Tok) :
    Meets (Builtin.«tuple.__mul__» ⟨[.ref l, .int 1 u], []⟩) (fun _ R s => s.heap.get? l = some { cls := .type "tuple", dict := dd, data := .seq items n, slots := sl } ∧ R (.ok (.ret (.ref l))) s) :=
  .of_wp fun prog w A R s h => by
    obtain ⟨hp, g, d, tk, os⟩ := s
    obtain ⟨hl, h⟩ := h
    have f1 := AutoSeq1.idx_int
    have c0 : (decide ((1 : Int) < -(2 ^ 63)) || decide ((1 : Int) ≥ 2 ^ 63)) = false := by decide
    have c1 : (items.isEmpty || (1 : Int) == 1) = true := by simp
    wp_walk using AutoSeq1.wpAny_loadPart' hl
    repeat (first
      | (refine wpAny_ite_false (decide_eq_false (by rw [c0]; exact Bool.false_ne_true)) ?_; wp_walk using AutoSeq1.wpAny_loadPart' hl)
      | (refine wpAny_ite_true (decide_eq_true c1) ?_; wp_walk using AutoSeq1.wpAny_loadPart' hl))
    exact ⟨_, rfl, h⟩
theorem tuple_mul0 (l : Addr) (items : Array Value) (n : Nat) (dd : Option Addr) (sl : Array (Option Value)) (u : Tok) (hi : items.isEmpty = false) :
    Meets (Builtin.«tuple.__mul__» ⟨[.ref l, .int 0 u], []⟩) (fun _ R s => s.heap.get? l = some { cls := .type "tuple", dict := dd, data := .seq items n, slots := sl } ∧
      R (.ok (.ret (Value.ref s.heap.objs.size))) { s with heap := s.heap.push { cls := Value.type "tuple", data := Data.seq #[] }, toks := s.toks }) :=
  .of_wp fun prog w A R s h => by
    obtain ⟨hp, g, d, tk, os⟩ := s
    obtain ⟨hl, h⟩ := h
    have f1 := AutoSeq1.idx_int
    have c0 : (decide ((0 : Int) < -(2 ^ 63)) || decide ((0 : Int) ≥ 2 ^ 63)) = false := by decide
    have c1 : (items.isEmpty || (0 : Int) == 1) = false := by rw [hi]; rfl
    have c2 : (decide ((0 : Int) ≤ 0) || items.isEmpty) = true := by simp
    wp_walk using AutoSeq1.wpAny_loadPart' hl
    repeat (first
      | (refine wpAny_ite_false (decide_eq_false (by rw [c0]; exact Bool.false_ne_true)) ?_; wp_walk using AutoSeq1.wpAny_loadPart' hl)
      | (refine wpAny_ite_false (decide_eq_false (by rw [c1]; exact Bool.false_ne_true)) ?_; wp_walk using AutoSeq1.wpAny_loadPart' hl)
      | (refine wpAny_ite_true (decide_eq_true c2) ?_; wp_walk using AutoSeq1.wpAny_loadPart' hl))
    exact ⟨_, rfl, h⟩
section
variable {X : Cx}
/-- t * 1 is t, t * 0 a new empty tuple (t not empty) -/
def rRepT01 (K : PySem.W.Frag) : R2 := fun x y H Q => ∃ l k xs, x = .ref l ∧ y = .int k ∧ SqT K H l xs ∧ xs ≠ [] ∧ ((k = 1 ∧ Q (.ref l) H) ∨ (k = 0 ∧ ∀ p, H p = none → Q (.ref p) (upd H p (.tup []))))
theorem op_repT01 : OpR X (binaryOp .Mult) (rRepT01 X.K) := by
  intro pins s σ H x y v u Q I rx ry h
  obtain ⟨l, k, xs, rfl, rfl, hT, hne, hq⟩ := h
  cases rx
  obtain ⟨t, rfl⟩ := ry
  obtain ⟨its, r, ⟨⟨cls, dd, data, sl⟩, ho, hc, n, hd⟩, hs⟩ := I.tuple hT
  simp only at hc hd
  subst hc hd
  have hle : its.length = xs.length := r.length.symm
  have hi : its.toArray.isEmpty = false := by
    cases its with
    | nil => exact absurd (List.eq_nil_of_length_eq_zero hle.symm) hne
    | cons a b => rfl
  rcases hq with ⟨rfl, q⟩ | ⟨rfl, q⟩
  · refine wpAny_binaryOp_repeat_ref (T := "tuple") (U := "int") (by decide) ⟨_, ho, rfl⟩ (fun s' => typeIs_int s' 1 t) noFill_tuple_mul F.fills_int_mul F.slot_int_rmul repeat_tuple F.slot_int_index.lookup
      (call_meets F.slot_int_rmul (typeIs_int s 1 t) F.entry_int_rmul (F.args_int_rmul_2 _ _) (int_rmul_tuple 1 t l its.toArray n dd sl)
        ⟨ho, rfl, ⟨_, ho, rfl⟩, call_meets F.slot_tuple_mul ⟨_, ho, rfl⟩ F.entry_tuple_mul (F.args_tuple_mul_2 _ _) (tuple_mul1 l its.toArray n dd sl t) ⟨ho, ?_⟩⟩)
    exact ⟨.ref l, H, I, rfl, q⟩
  · refine wpAny_binaryOp_repeat_ref (T := "tuple") (U := "int") (by decide) ⟨_, ho, rfl⟩ (fun s' => typeIs_int s' 0 t) noFill_tuple_mul F.fills_int_mul F.slot_int_rmul repeat_tuple F.slot_int_index.lookup
      (call_meets F.slot_int_rmul (typeIs_int s 0 t) F.entry_int_rmul (F.args_int_rmul_2 _ _) (int_rmul_tuple 0 t l its.toArray n dd sl)
        ⟨ho, rfl, ⟨_, ho, rfl⟩, call_meets F.slot_tuple_mul ⟨_, ho, rfl⟩ F.entry_tuple_mul (F.args_tuple_mul_2 _ _) (tuple_mul0 l its.toArray n dd sl t hi) ⟨ho, ?_⟩⟩)
    exact ⟨.ref s.heap.objs.size, _, I.laid (t' := s.toks) (fun b o e => Heap.get?_push_of_some _ e) (Nat.le_refl _) (show ObjOk X.prog X.w _ _ _ (.tup []) from ⟨Nat.zero_le _, [], .nil, _, Heap.get?_push_size _ rfl, rfl, 0, rfl⟩), rfl, q _ (I.hok.fresh (Nat.le_refl _))⟩
end
end Ol
set_option Elab.async false
set_option linter.all false
set_option maxRecDepth 100000
set_option maxHeartbeats 2000000
/-! OlSem: big steps over data: what an expression, a statement, a def does to the slots' data. -/
namespace Ol
open PySem L2
open Evl (Ex Ex.refl Ex.trans Ex.new ex_l ex_t fresh_back sz_of sz_lt)

/-- what is known of a slot: nothing; its data; a known object; an object of our own that nobody else holds (at a, where told) -/
inductive Sd where
  | u
  | d (x : PyData)
  | c (φ : HO → Hp → Prop)
  | o (a : Option Addr) (φ : HO → Hp → Prop)

def SlotOk (K : PySem.W.Frag) (H H1 : Hp) (x : Option V) : Sd → Prop
  | .u => True
  | .d d => ∃ v, x = some v ∧ Dp K H v d
  | .c φ => ∃ p o, x = some (.ref p) ∧ H p = some o ∧ ∀ H', Ex H H' → φ o H'
  | .o a φ => ∃ p o, x = some (.ref p) ∧ (∀ q, a = some q → q = p) ∧ H p = none ∧ H1 p = some o ∧ ∀ H', Ex H H' → φ o H'
def OwnAt (σ : L2.St) (env : List Sd) (i : Nat) (p : Addr) : Prop := σ[i]? = some (some (.ref p)) ∧ ∃ a φ, env[i]? = some (.o a φ)
def Sd.isO : Sd → Prop
  | .o _ _ => True
  | _ => False

theorem SlotOk.up {K : PySem.W.Frag} {H H1 H' H2 : Hp} {x : Option V} {s : Sd} (e : Ex H H') (k : ∀ p o, s.isO → H p = none → H1 p = some o → x = some (.ref p) → H' p = none ∧ H2 p = some o) (h : SlotOk K H H1 x s) : SlotOk K H' H2 x s := by
  cases s with
  | u => exact trivial
  | d d => obtain ⟨v, e1, p⟩ := h; exact ⟨v, e1, dp_ex e p⟩
  | c φ => obtain ⟨p, o, e1, h1, m⟩ := h; exact ⟨p, o, e1, e p o h1, fun Hx ex => m Hx (e.trans ex)⟩
  | o a φ =>
    obtain ⟨p, o, e1, ea, h0, h1, m⟩ := h
    exact ⟨p, o, e1, ea, (k p o trivial h0 h1 e1).1, (k p o trivial h0 h1 e1).2, fun Hx ex => m Hx (e.trans ex)⟩

structure EnvOk (K : PySem.W.Frag) (H H1 : Hp) (σ : L2.St) (env : List Sd) : Prop where
  len : σ.length = env.length
  at_ : ∀ (i : Nat) (s : Sd), env[i]? = some s → ∃ x, σ[i]? = some x ∧ SlotOk K H H1 x s
  inj : ∀ i j p, OwnAt σ env i p → OwnAt σ env j p → i = j
/-- a base: the heaps ahead, the objects that may change -/
structure Bs where
  B : Hp
  B1 : Hp
  A : Addr → Prop
  L : Addr → Prop
structure St (K : PySem.W.Frag) (β : Bs) (σ : L2.St) (H H1 : Hp) (e : List Sd) : Prop where
  env : EnvOk K H H1 σ e
  ex : Ex H H1
  b : Ex β.B H
  there : ∀ a, β.B1 a ≠ none → H1 a ≠ none
  keep : ∀ a o, ¬ β.A a → β.B1 a = some o → H1 a = some o
  off : ∀ a, β.B a = none → β.B1 a ≠ none → H a = none
  own : ∀ i p, OwnAt σ e i p → β.A p ∨ β.B1 p = none
  loc : ∀ (i : Nat) p φ, σ[i]? = some (some (.ref p)) → e[i]? = some (.o none φ) → β.L p ∨ β.B1 p = none
theorem none_or {H : Hp} {a : Addr} : H a = none ∨ ∃ o, H a = some o := by
  cases H a with
  | none => exact .inl rfl
  | some o => exact .inr ⟨o, rfl⟩
section
variable {K : PySem.W.Frag} {β : Bs} {σ σ' : L2.St} {H H1 H' H2 : Hp} {env env' : List Sd} {v : V} {r : Sd}
theorem OwnAt.obj {i : Nat} {p : Addr} (S : EnvOk K H H1 σ env) (h : OwnAt σ env i p) : H p = none ∧ ∃ o, H1 p = some o := by
  obtain ⟨h1, a, φ, h2⟩ := h
  obtain ⟨x, hx, q, o, e, _, n, s, _⟩ := S.at_ i _ h2
  rw [h1] at hx
  cases hx
  cases e
  exact ⟨n, o, s⟩
theorem EnvOk.up (S : EnvOk K H H1 σ env) (e : Ex H H') (k : ∀ i p o, OwnAt σ env i p → H p = none → H1 p = some o → H' p = none ∧ H2 p = some o) : EnvOk K H' H2 σ env where
  len := S.len
  at_ i s h := by
    obtain ⟨x, hx, q⟩ := S.at_ i s h
    refine ⟨x, hx, q.up e fun p o ho h0 h1 e1 => ?_⟩
    cases s with
    | o a φ => exact k i p o ⟨by rw [hx, e1], a, φ, h⟩ h0 h1
    | u => exact ho.elim
    | d d => exact ho.elim
    | c φ => exact ho.elim
  inj := S.inj
theorem St.up (S : St K β σ H H1 env) (u : Up H H1 H' H2) : St K β σ H' H2 env where
  env := S.env.up u.ex fun i p o _ h0 h1 => ⟨u.off h0 (some_ne h1), u.at h1⟩
  ex := u.of
  b := S.b.trans u.ex
  there a h := ex_ne u.2.2.1 (S.there a h)
  keep a o n h := u.at (S.keep a o n h)
  off a h h1 := u.off (S.off a h h1) (S.there a h1)
  own := S.own
  loc := S.loc
def Bs.of (σ : L2.St) (H H1 : Hp) (env : List Sd) : Bs := ⟨H, H1, fun a => ∃ i, OwnAt σ env i a, fun a => ∃ (i : Nat) (φ : HO → Hp → Prop), σ[i]? = some (some (.ref a)) ∧ env[i]? = some (.o none φ)⟩
theorem St.self (S : St K β σ H H1 env) : St K (Bs.of σ H H1 env) σ H H1 env where
  env := S.env
  ex := S.ex
  b := Ex.refl H
  there _ h := h
  keep _ _ _ h := h
  off _ h _ := h
  own i p h := .inl ⟨i, h⟩
  loc i p φ h1 h2 := .inl ⟨i, φ, h1, h2⟩
theorem St.back (S : St K β σ H H1 env) (T : St K (Bs.of σ H H1 env) σ' H' H2 env') : St K β σ' H' H2 env' where
  env := T.env
  ex := T.ex
  b := S.b.trans T.b
  there a h := T.there a (S.there a h)
  keep a o n h := T.keep a o (fun ⟨i, w⟩ => by
    rcases S.own i a w with z | z
    · exact n z
    · rw [z] at h; exact nomatch h) (S.keep a o n h)
  off a h h1 := T.off a (S.off a h h1) (S.there a h1)
  own i p h := by
    rcases T.own i p h with ⟨j, w⟩ | z
    · exact S.own j p w
    · refine .inr ?_
      rcases none_or (H := β.B1) (a := p) with q | ⟨o, q⟩
      · exact q
      · exact absurd z (S.there p (some_ne q))
  loc i p φ h1 h2 := by
    rcases T.loc i p φ h1 h2 with ⟨j, χ, w1, w2⟩ | z
    · exact S.loc j p χ w1 w2
    · refine .inr ?_
      rcases none_or (H := β.B1) (a := p) with q | ⟨o, q⟩
      · exact q
      · exact absurd z (S.there p (some_ne q))
/-- what comes of an expression -/
structure ResOk (K : PySem.W.Frag) (β : Bs) (σ : L2.St) (env : List Sd) (H H1 : Hp) (v : V) (r : Sd) : Prop where
  ok : SlotOk K H H1 (some v) r
  new : ∀ a φ, r = .o a φ → ∀ p, v = .ref p → β.B1 p = none ∧ ∀ i, ¬ OwnAt σ env i p
theorem ResOk.d {d : PyData} (h : ResOk K β σ env H H1 v (.d d)) : Dp K H v d := by
  obtain ⟨w, e, p⟩ := h.ok
  cases e
  exact p
theorem ResOk.dd {d : PyData} (h : Dp K H v d) : ResOk K β σ env H H1 v (.d d) := ⟨⟨v, rfl, h⟩, fun _ _ e => nomatch e⟩
theorem ResOk.uu : ResOk K β σ env H H1 v .u := ⟨trivial, fun _ _ e => nomatch e⟩
theorem ResOk.o {a : Option Addr} {φ : HO → Hp → Prop} (h : ResOk K β σ env H H1 v (.o a φ)) : ∃ p o, v = .ref p ∧ (∀ q, a = some q → q = p) ∧ H p = none ∧ H1 p = some o ∧ (∀ H', Ex H H' → φ o H') ∧ β.B1 p = none ∧ ∀ i, ¬ OwnAt σ env i p := by
  obtain ⟨p, o, e, ea, h0, h1, m⟩ := h.ok
  cases e
  exact ⟨p, o, rfl, ea, h0, h1, m, h.new _ _ rfl p rfl⟩
/-- by values: the result is data, or a new object -/
structure RO (K : PySem.W.Frag) (H1 H' H2 : Hp) (v : V) (r : Sd) : Prop where
  ok : SlotOk K H' H2 (some v) r
  new : ∀ a φ, r = .o a φ → ∀ p, v = .ref p → H1 p = none
theorem RO.res (S : St K β σ H H1 env) (h : RO K H1 H' H2 v r) : ResOk K β σ env H' H2 v r where
  ok := h.ok
  new a φ e p ev := by
    have n := h.new a φ e p ev
    refine ⟨?_, fun i w => ?_⟩
    · rcases none_or (H := β.B1) (a := p) with q | ⟨o, q⟩
      · exact q
      · exact absurd n (S.there p (some_ne q))
    · obtain ⟨_, o, z⟩ := w.obj S.env
      rw [n] at z
      exact nomatch z
theorem RO.d {d : PyData} (h : Dp K H' v d) : RO K H1 H' H2 v (.d d) := ⟨⟨v, rfl, h⟩, fun _ _ e => nomatch e⟩
/-- the continuation of an operation on values -/
def KR (K : PySem.W.Frag) (H H1 : Hp) (r : Sd) (Q : VK) : Prop := ∀ v H' H2, Up H H1 H' H2 → RO K H1 H' H2 v r → Q v H2
theorem KR.dd {Q : VK} {d : PyData} (k : KR K H H1 (.d d) Q) (e : Ex H H1) (h : Dp K H v d) : Q v H1 := k v H H1 (Up.refl e) (.d h)
theorem KR.newT {Q : VK} {ds : List PyData} {xs : List V} (k : KR K H H1 (.d (.tuple ds)) Q) (e : Ex H H1) (h : DpAll K H xs ds) : ∀ p, H1 p = none → Q (.ref p) (upd H1 p (.tup xs)) := fun p hp =>
  k _ _ _ (Up.new e hp) (.d (.tup (SqT.of upd_same) (dpa_ex (Ex.new (fresh_back e hp)) h)))
theorem KR.newL {Q : VK} {ds : List PyData} {xs : List V} (k : KR K H H1 (.o none (Lf K ds)) Q) (e : Ex H H1) (h : DpAll K H xs ds) : ∀ p, H1 p = none → Q (.ref p) (upd H1 p (.lst xs)) := fun p hp =>
  k _ H _ (Up.newM e hp) ⟨⟨p, .lst xs, rfl, (fun _ z => by cases z), fresh_back e hp, upd_same, fun H' ex => ⟨xs, rfl, dpa_ex ex h⟩⟩, fun _ _ _ q z => by cases z; exact hp⟩
theorem KR.newO {Q : VK} {φ : HO → Hp → Prop} {o : HO} (k : KR K H H1 (.o none φ) Q) (e : Ex H H1) (h : ∀ H', Ex H H' → φ o H') : ∀ p, H1 p = none → Q (.ref p) (upd H1 p o) := fun p hp =>
  k _ H _ (Up.newM e hp) ⟨⟨p, o, rfl, (fun _ z => by cases z), fresh_back e hp, upd_same, h⟩, fun _ _ _ q z => by cases z; exact hp⟩
theorem dpa_map {ds : List PyData} {vs : List V} : DpAll K H vs ds ↔ vs.length = ds.length ∧ ∀ (i : Nat) v d, vs[i]? = some v → ds[i]? = some d → Dp K H v d := by
  constructor
  · intro h
    refine ⟨h.len, fun i v d hv hd => ?_⟩
    obtain ⟨d', e, p⟩ := h.got hv
    rw [hd] at e
    cases e
    exact p
  · rintro ⟨hl, h⟩
    induction vs generalizing ds with
    | nil =>
      cases ds with
      | nil => exact .nil
      | cons => exact absurd hl (by simp)
    | cons v vs ih =>
      cases ds with
      | nil => exact absurd hl (by simp)
      | cons d ds => exact .cons (h 0 v d rfl rfl) (ih (by simpa using hl) fun i v d hv hd => h (i + 1) v d (by simpa using hv) (by simpa using hd))
theorem Dp.frzO {ds : List PyData} {p : Addr} {o : HO} (h : Lf K ds o H) (e : H p = some o) : Dp K H (.ref p) (.list ds) := by
  obtain ⟨ys, rfl, a⟩ := h
  exact .lst (SqL.of e) a
end

/-! ### the wishes of a piece of syntax -/
section
variable {X : Cx}
structure teW (X : Cx) (e : Expr) (σ : L2.St) (H : Hp) (Q : VK) : Prop where of' :: run : ∀ (pins : List (Addr × Obj)) (s : Shared), L2.Inv X pins σ H s → wpAny (model X.prog X.w) X.A (eval e X.env) (EP X pins σ Q) X.xe s
structure ttW (X : Cx) (e : Expr) (σ : L2.St) (H : Hp) (Q : Bool → Hp → Prop) : Prop where of' :: run : ∀ (pins : List (Addr × Obj)) (s : Shared), L2.Inv X pins σ H s → wpAny (model X.prog X.w) X.A (isTrue e X.env (eval e X.env)) (TP X pins σ Q) X.xe s
structure twW (X : Cx) (e : Expr) (σ : L2.St) (H : Hp) (Q : Bool → Hp → Prop) : Prop where of' :: run : ∀ (whole : Sem Value) (pins : List (Addr × Obj)) (s : Shared), L2.Inv X pins σ H s → wpAny (model X.prog X.w) X.A (isTrue e X.env whole) (TP X pins σ Q) X.xe s
structure taW (X : Cx) (es : List Expr) (σ : L2.St) (H : Hp) (Q : List V → Hp → Prop) : Prop where of' :: run : ∀ (pos : Pos) (pins : List (Addr × Obj)) (s : Shared), L2.Inv X pins σ H s → wpAny (model X.prog X.w) X.A (spliced (backTo pos (starEach es X.env))) (AP X pins σ Q) X.xe s
structure tsW (X : Cx) (st : Stmt) (D : Ends) (σ : L2.St) (H : Hp) : Prop where of' :: run : ∀ (pins : List (Addr × Obj)) (s : Shared), L2.Inv X pins σ H s → wpAny (model X.prog X.w) X.A (exec st X.env) (SP X pins D) X.xe s
structure tssW (X : Cx) (st : List Stmt) (D : Ends) (σ : L2.St) (H : Hp) : Prop where of' :: run : ∀ (pins : List (Addr × Obj)) (s : Shared), L2.Inv X pins σ H s → wpAny (model X.prog X.w) X.A (execs st X.env) (SP X pins D) X.xe s
structure tgW (X : Cx) (tg : Expr) (v : V) (σ : L2.St) (H : Hp) (Q : L2.St → Hp → Prop) : Prop where of' :: run : ∀ (pins : List (Addr × Obj)) (s : Shared) (u : Value), L2.Inv X pins σ H s → RelV v u → wpAny (model X.prog X.w) X.A (assign tg X.env u) (fun _ s' => ∃ σ' H', L2.Inv X pins σ' H' s' ∧ Q σ' H') X.xe s
structure tiW (X : Cx) (tg iter : Expr) (σ : L2.St) (H : Hp) (R : It → Hp → Prop) : Prop where of' :: run : ∀ (pins : List (Addr × Obj)) (s : Shared), L2.Inv X pins σ H s → wpAny (model X.prog X.w) X.A (eval iter X.env) (fun v s1 => wpAny (model X.prog X.w) X.A (pyIter v) (PIE X pins σ tg R) X.xe s1) X.xe s
structure tpW (X : Cx) (ifs : List Expr) (σ : L2.St) (H : Hp) (Q : Bool → Hp → Prop) : Prop where of' :: run : ∀ (pins : List (Addr × Obj)) (s : Shared), L2.Inv X pins σ H s → wpAny (model X.prog X.w) X.A (forIn ifs true fun c r => if r = true then do let ok ← isTrue c X.env (eval c X.env); pure (ForInStep.yield ok) else pure (ForInStep.yield r)) (TP X pins σ Q) X.xe s
theorem peW {e : Expr} : PE X e (teW X e) := ⟨fun pins s _ _ _ I h => h.run pins s I⟩
theorem ptW {e : Expr} : PT X e (ttW X e) := ⟨fun pins s _ _ _ I h => h.run pins s I⟩
theorem pwW {e : Expr} : PW X e (twW X e) := ⟨fun w pins s _ _ _ I h => h.run w pins s I⟩
theorem paW {e : List Expr} : PA X e (taW X e) := ⟨fun pos pins s _ _ _ I h => h.run pos pins s I⟩
theorem psW {e : Stmt} : PS X e (tsW X e) := ⟨fun pins s _ _ _ I h => h.run pins s I⟩
theorem pssW {e : List Stmt} : PSs X e (tssW X e) := ⟨fun pins s _ _ _ I h => h.run pins s I⟩
theorem pgW {e : Expr} : PG X e (tgW X e) := ⟨fun pins s _ _ _ u _ I r h => h.run pins s u I r⟩
theorem piW {tg e : Expr} : PI X tg e (tiW X tg e) := ⟨fun pins s _ _ _ I h => h.run pins s I⟩
theorem ptsW {e : List Expr} : PTs X e (tpW X e) := ⟨fun pins s _ _ _ I h => h.run pins s I⟩
variable {σ : L2.St} {H : Hp}
theorem teW.of {e : Expr} {t : TE} {Q : VK} (h : PE X e t) (q : t σ H Q) : teW X e σ H Q := ⟨fun pins s I => h.run pins s σ H Q I q⟩
theorem ttW.of {e : Expr} {t : TT} {Q : Bool → Hp → Prop} (h : PT X e t) (q : t σ H Q) : ttW X e σ H Q := ⟨fun pins s I => h.run pins s σ H Q I q⟩
theorem taW.of {e : List Expr} {t : TA} {Q : List V → Hp → Prop} (h : PA X e t) (q : t σ H Q) : taW X e σ H Q := ⟨fun pos pins s I => h.run pos pins s σ H Q I q⟩
theorem tsW.of {e : Stmt} {t : TS} {D : Ends} (h : PS X e t) (q : t D σ H) : tsW X e D σ H := ⟨fun pins s I => h.run pins s σ H D I q⟩
theorem tssW.of {e : List Stmt} {t : TS} {D : Ends} (h : PSs X e t) (q : t D σ H) : tssW X e D σ H := ⟨fun pins s I => h.run pins s σ H D I q⟩
theorem tgW.of {e : Expr} {t : TG} {v : V} {Q : L2.St → Hp → Prop} (h : PG X e t) (q : t v σ H Q) : tgW X e v σ H Q := ⟨fun pins s u I r => h.run pins s σ H v u Q I r q⟩
theorem tiW.of {tg e : Expr} {t : TI} {R : It → Hp → Prop} (h : PI X tg e t) (q : t σ H R) : tiW X tg e σ H R := ⟨fun pins s I => h.run pins s σ H R I q⟩
theorem tpW.of {e : List Expr} {t : TT} {Q : Bool → Hp → Prop} (h : PTs X e t) (q : t σ H Q) : tpW X e σ H Q := ⟨fun pins s I => h.run pins s σ H Q I q⟩
end

/-! ### the judgements -/
/-- e, read over env, leaves env' and gives r -/
def Ev (X : Cx) (e : Expr) (env env' : List Sd) (r : Sd) : Prop := ∀ (β : Bs) (σ : L2.St) (H H1 : Hp) (Q : VK), St X.K β σ H H1 env → (∀ v H' H2, St X.K β σ H' H2 env' → Ex H H' → ResOk X.K β σ env' H' H2 v r → Q v H2) → teW X e σ H1 Q
/-- a test -/
def Et (X : Cx) (e : Expr) (env env' : List Sd) (b : Bool) : Prop := ∀ (β : Bs) (σ : L2.St) (H H1 : Hp) (Q : Bool → Hp → Prop), St X.K β σ H H1 env → (∀ H' H2, St X.K β σ H' H2 env' → Q b H2) → ttW X e σ H1 Q
def Ew (X : Cx) (e : Expr) (env env' : List Sd) (b : Bool) : Prop := ∀ (β : Bs) (σ : L2.St) (H H1 : Hp) (Q : Bool → Hp → Prop), St X.K β σ H H1 env → (∀ H' H2, St X.K β σ H' H2 env' → Q b H2) → twW X e σ H1 Q
def Ep (X : Cx) (es : List Expr) (env env' : List Sd) (b : Bool) : Prop := ∀ (β : Bs) (σ : L2.St) (H H1 : Hp) (Q : Bool → Hp → Prop), St X.K β σ H H1 env → (∀ H' H2, St X.K β σ H' H2 env' → Q b H2) → tpW X es σ H1 Q
/-- an argument: a result, or the object in slot i -/
inductive Ag where
  | r (s : Sd)
  | b (i : Nat)
def AgOk (K : PySem.W.Frag) (β : Bs) (σ : L2.St) (env : List Sd) (H H1 : Hp) (v : V) : Ag → Prop
  | .r s => ResOk K β σ env H H1 v s
  | .b i => σ[i]? = some (some v)
structure AgsOk (K : PySem.W.Frag) (β : Bs) (σ : L2.St) (env : List Sd) (H H1 : Hp) (vs : List V) (gs : List Ag) : Prop where
  len : vs.length = gs.length
  at_ : ∀ (i : Nat) v g, vs[i]? = some v → gs[i]? = some g → AgOk K β σ env H H1 v g
  inj : ∀ (i j : Nat) p a φ b ψ, vs[i]? = some (V.ref p) → vs[j]? = some (V.ref p) → gs[i]? = some (.r (.o a φ)) → gs[j]? = some (.r (.o b ψ)) → i = j
def El (X : Cx) (es : List Expr) (env env' : List Sd) (gs : List Ag) : Prop := ∀ (β : Bs) (σ : L2.St) (H H1 : Hp) (Q : List V → Hp → Prop), St X.K β σ H H1 env → (∀ vs H' H2, St X.K β σ H' H2 env' → Ex H H' → AgsOk X.K β σ env' H' H2 vs gs → Q vs H2) → taW X es σ H1 Q
/-- a block, a statement -/
inductive Out where
  | nx (env : List Sd)
  | rt (env : List Sd) (r : Sd)
def Cov (K : PySem.W.Frag) (β : Bs) (D : Ends) : Out → Prop
  | .nx env => ∀ σ' H' H2, St K β σ' H' H2 env → D.nx σ' H2
  | .rt env r => ∀ σ' v H' H2, St K β σ' H' H2 env → ResOk K β σ' env H' H2 v r → D.rt v H2
def R1 (X : Cx) (st : Stmt) (env : List Sd) (out : Out) : Prop := ∀ (β : Bs) (σ : L2.St) (H H1 : Hp) (D : Ends), (∀ p, ¬ β.L p) → St X.K β σ H H1 env → Cov X.K β D out → tsW X st D σ H1
def Rn (X : Cx) (st : List Stmt) (env : List Sd) (out : Out) : Prop := ∀ (β : Bs) (σ : L2.St) (H H1 : Hp) (D : Ends), (∀ p, ¬ β.L p) → St X.K β σ H H1 env → Cov X.K β D out → tssW X st D σ H1
/-- a store of data d -/
def Tg (X : Cx) (tg : Expr) (vs : List Nat) (d : PyData) (env env' : List Sd) : Prop := ∀ (β : Bs) (σ : L2.St) (H H1 : Hp) (v : V) (Q : L2.St → Hp → Prop), St X.K β σ H H1 env → Dp X.K H v d →
  (∀ σ', St X.K β σ' H H1 env' → σ'.length = σ.length → (∀ j, j ∉ vs → σ'[j]? = σ[j]?) → Q σ' H1) → tgW X tg v σ H1 Q
/-- what is walked: the items ds, one by one -/
def JOk (K : PySem.W.Frag) (J : It) (ds : List PyData) (H : Hp) : Prop := ∀ (i : Nat) (Hb Ha : Hp), Ex H Hb → Ex Hb Ha →
  (∀ d, ds[i]? = some d → J.go i Ha ∧ ∀ x Ha', J.yld i Ha x Ha' → ∃ Hb', Up Hb Ha Hb' Ha' ∧ Dp K Hb' x d) ∧ (i = ds.length → J.stop i Ha)
def Ei (X : Cx) (tg iter : Expr) (env env' : List Sd) (ds : List PyData) : Prop := ∀ (β : Bs) (σ : L2.St) (H H1 : Hp) (R : It → Hp → Prop), St X.K β σ H H1 env → (∀ J H' H2, St X.K β σ H' H2 env' → Ex H H' → JOk X.K J ds H' → R J H2) → tiW X tg iter σ H1 R

/-! ### env to env -/
def Wk : List Sd → List Sd → Prop
  | [], [] => True
  | _ :: as, .u :: bs => Wk as bs
  | a :: as, b :: bs => a = b ∧ Wk as bs
  | _, _ => False
theorem Wk.len : ∀ {a b : List Sd}, Wk a b → a.length = b.length
  | [], [], _ => rfl
  | _ :: as, .u :: bs, h => congrArg (· + 1) (Wk.len (a := as) (b := bs) h)
  | _ :: as, .d _ :: bs, h => congrArg (· + 1) (Wk.len (a := as) (b := bs) h.2)
  | _ :: as, .c _ :: bs, h => congrArg (· + 1) (Wk.len (a := as) (b := bs) h.2)
  | _ :: as, .o _ _ :: bs, h => congrArg (· + 1) (Wk.len (a := as) (b := bs) h.2)
  | [], _ :: _, h => h.elim
  | _ :: _, [], h => h.elim
theorem Wk.get : ∀ {a b : List Sd}, Wk a b → ∀ {i : Nat} {s : Sd}, b[i]? = some s → s = .u ∨ a[i]? = some s
  | [], [], _, i, s, e => by simp at e
  | x :: as, y :: bs, h, 0, s, e => by
    cases y with
    | u => simp at e; exact .inl e.symm
    | d _ => simp at e; subst e; exact .inr (by rw [h.1]; rfl)
    | c _ => simp at e; subst e; exact .inr (by rw [h.1]; rfl)
    | o _ _ => simp at e; subst e; exact .inr (by rw [h.1]; rfl)
  | x :: as, y :: bs, h, i + 1, s, e => by
    have h' : Wk as bs := by
      cases y with
      | u => exact h
      | d _ => exact h.2
      | c _ => exact h.2
      | o _ _ => exact h.2
    have := Wk.get h' (i := i) (s := s) (by simpa using e)
    simpa using this
  | [], _ :: _, h, _, _, _ => h.elim
  | _ :: _, [], h, _, _, _ => h.elim
theorem Wk.refl : ∀ {a : List Sd}, Wk a a
  | [] => trivial
  | x :: as => by
    cases x with
    | u => exact Wk.refl (a := as)
    | d _ => exact ⟨rfl, Wk.refl (a := as)⟩
    | c _ => exact ⟨rfl, Wk.refl (a := as)⟩
    | o _ _ => exact ⟨rfl, Wk.refl (a := as)⟩
section
variable {K : PySem.W.Frag} {β : Bs} {σ σ' : L2.St} {H H1 H' H2 : Hp} {env env' : List Sd} {v : V} {r : Sd}
theorem OwnAt.wk (w : Wk env env') {i : Nat} {p : Addr} (h : OwnAt σ env' i p) : OwnAt σ env i p := by
  obtain ⟨h1, a, φ, h2⟩ := h
  rcases w.get h2 with z | z
  · exact nomatch z
  · exact ⟨h1, a, φ, z⟩
theorem EnvOk.wk (S : EnvOk K H H1 σ env) (w : Wk env env') : EnvOk K H H1 σ env' where
  len := S.len.trans w.len
  at_ i s h := by
    rcases w.get h with z | z
    · subst z
      have : i < σ.length := by rw [S.len, w.len]; exact (List.getElem?_eq_some_iff.mp h).1
      exact ⟨σ[i], List.getElem?_eq_getElem this, trivial⟩
    · exact S.at_ i s z
  inj i j p a b := S.inj i j p (a.wk w) (b.wk w)
theorem St.wk (S : St K β σ H H1 env) (w : Wk env env') : St K β σ H H1 env' where
  env := S.env.wk w
  ex := S.ex
  b := S.b
  there := S.there
  keep := S.keep
  off := S.off
  own i p h := S.own i p (h.wk w)
  loc i p φ h1 h2 := by
    rcases w.get h2 with z | z
    · exact nomatch z
    · exact S.loc i p φ h1 z
/-- a slot is stored -/
theorem St.set {i : Nat} (S : St K β σ H H1 env) (h : ResOk K β σ env H H1 v r) (hi : i < env.length) : St K β (σ.set i (some v)) H H1 (env.set i r) := by
  have own : ∀ j p, OwnAt (σ.set i (some v)) (env.set i r) j p → (j = i ∧ v = .ref p ∧ ∃ a φ, r = .o a φ) ∨ (j ≠ i ∧ OwnAt σ env j p) := fun j p ⟨h1, a, φ, h2⟩ => by
    by_cases e : i = j
    · subst e
      rw [List.getElem?_set_self (by rw [S.env.len]; exact hi)] at h1
      rw [List.getElem?_set_self hi] at h2
      cases h1; cases h2
      exact .inl ⟨rfl, rfl, a, φ, rfl⟩
    · rw [List.getElem?_set_ne e] at h1 h2
      exact .inr ⟨fun z => e z.symm, h1, a, φ, h2⟩
  refine { env := ⟨by rw [List.length_set, List.length_set]; exact S.env.len, fun j s hs => ?_, fun j k p a b => ?_⟩, ex := S.ex, b := S.b, there := S.there, keep := S.keep, off := S.off, own := fun j p w => ?_, loc := fun j p χ w1 w2 => ?_ }
  · by_cases e : i = j
    · subst e
      rw [List.getElem?_set_self hi] at hs
      cases hs
      exact ⟨some v, List.getElem?_set_self (by rw [S.env.len]; exact hi), h.ok⟩
    · rw [List.getElem?_set_ne e] at hs ⊢
      exact S.env.at_ j s hs
  · rcases own j p a with ⟨e1, e2, a1, φ1, e3⟩ | ⟨e1, e2⟩
    · rcases own k p b with ⟨f1, f2, a2, φ2, f3⟩ | ⟨f1, f2⟩
      · rw [e1, f1]
      · exact absurd f2 ((h.new _ _ e3 p e2).2 k)
    · rcases own k p b with ⟨f1, f2, a2, φ2, f3⟩ | ⟨f1, f2⟩
      · exact absurd e2 ((h.new _ _ f3 p f2).2 j)
      · exact S.env.inj j k p e2 f2
  · rcases own j p w with ⟨e1, e2, a1, φ1, e3⟩ | ⟨e1, e2⟩
    · exact .inr (h.new _ _ e3 p e2).1
    · exact S.own j p e2
  · by_cases e : i = j
    · subst e
      rw [List.getElem?_set_self (by rw [S.env.len]; exact hi)] at w1
      rw [List.getElem?_set_self hi] at w2
      cases w1; cases w2
      exact .inr (h.new _ _ rfl p rfl).1
    · rw [List.getElem?_set_ne e] at w1 w2
      exact S.loc j p χ w1 w2
/-- the object in slot i is changed -/
theorem St.mut {i : Nat} {p : Addr} {o : HO} {a : Option Addr} {φ ψ : HO → Hp → Prop} (S : St K β σ H H1 env) (he : env[i]? = some (.o a φ)) (hs : σ[i]? = some (some (.ref p))) (h : ∀ H', Ex H H' → ψ o H') : St K β σ H (upd H1 p o) (env.set i (.o a ψ)) := by
  have hown : OwnAt σ env i p := ⟨hs, a, φ, he⟩
  obtain ⟨hn, o1, h1⟩ := hown.obj S.env
  have hi : i < env.length := (List.getElem?_eq_some_iff.mp he).1
  have own : ∀ j q, OwnAt σ (env.set i (.o a ψ)) j q → OwnAt σ env j q := fun j q ⟨w1, b, χ, w2⟩ => by
    by_cases e : i = j
    · subst e; exact ⟨w1, a, φ, he⟩
    · rw [List.getElem?_set_ne e] at w2; exact ⟨w1, b, χ, w2⟩
  refine { env := ⟨by rw [List.length_set]; exact S.env.len, fun j s hs' => ?_, fun j k q x y => S.env.inj j k q (own j q x) (own k q y)⟩, ex := fun b u hb => ?_, b := S.b, there := fun b hb => ?_, keep := fun b u n hb => ?_, off := S.off, own := fun j q w => S.own j q (own j q w), loc := fun j q χ w1 w2 => ?_ }
  · by_cases e : i = j
    · subst e
      rw [List.getElem?_set_self hi] at hs'
      cases hs'
      obtain ⟨x, hx, q, o', ex', ea, _, _, _⟩ := S.env.at_ i _ he
      rw [hs] at hx
      cases hx; cases ex'
      exact ⟨_, hs, p, o, rfl, ea, hn, upd_same, h⟩
    · rw [List.getElem?_set_ne e] at hs'
      obtain ⟨x, hx, q⟩ := S.env.at_ j s hs'
      refine ⟨x, hx, q.up (Ex.refl H) fun q' o' ho h0 h1' ex' => ⟨h0, ?_⟩⟩
      cases s with
      | o b χ =>
        have ne : q' ≠ p := fun z => by
          subst z
          exact e (S.env.inj i j q' hown ⟨by rw [hx, ex'], b, χ, hs'⟩)
        rw [upd_ne ne]; exact h1'
      | u => exact ho.elim
      | d _ => exact ho.elim
      | c _ => exact ho.elim
  · rw [upd_ne (ne_of_none hb hn)]; exact S.ex b u hb
  · by_cases e : b = p
    · subst e; rw [upd_same]; exact fun z => nomatch z
    · rw [upd_ne e]; exact S.there b hb
  · have ne : b ≠ p := fun z => by
      subst z
      rcases S.own i b hown with w | w
      · exact n w
      · rw [w] at hb; exact nomatch hb
    rw [upd_ne ne]; exact S.keep b u n hb
  · by_cases e : i = j
    · subst e
      rw [List.getElem?_set_self hi] at w2
      cases w2
      exact S.loc i q _ w1 he
    · rw [List.getElem?_set_ne e] at w2
      exact S.loc j q χ w1 w2
/-- a new object of ours is told -/
theorem St.freeze {p : Addr} {o : HO} (S : St K β σ H H1 env) (h0 : H p = none) (h1 : H1 p = some o) (hb : β.B1 p = none) (hn : ∀ i, ¬ OwnAt σ env i p) : St K β σ (upd H p o) H1 env := by
  have e : Ex H (upd H p o) := Ex.new h0
  refine { env := S.env.up e fun i q o' w w0 w1 => ⟨?_, w1⟩, ex := fun a v h => ?_, b := S.b.trans e, there := S.there, keep := S.keep, off := fun a w w1 => ?_, own := S.own, loc := S.loc }
  · have ne : q ≠ p := fun z => hn i (z ▸ w)
    rw [upd_ne ne]; exact w0
  · by_cases q : a = p
    · subst q; rw [upd_same] at h; rw [h1]; exact h
    · rw [upd_ne q] at h; exact S.ex a v h
  · have ne : a ≠ p := fun z => w1 (z ▸ hb)
    rw [upd_ne ne]; exact S.off a w w1
/-- the object in a slot is told -/
theorem St.frzAt {i : Nat} {φ : HO → Hp → Prop} {s : Sd} (S : St K β σ H H1 env) (he : env[i]? = some (.o none φ)) (hL : ∀ p, ¬ β.L p)
    (hs : ∀ p o H', H' p = some o → φ o H' → SlotOk K H' H1 (some (.ref p)) s) (hso : ¬ s.isO) : ∃ H', St K β σ H' H1 (env.set i s) ∧ Ex H H' := by
  have hi : i < env.length := (List.getElem?_eq_some_iff.mp he).1
  obtain ⟨x, hx, p, o, ex', _, h0, h1, m⟩ := S.env.at_ i _ he
  subst ex'
  have own : OwnAt σ env i p := ⟨hx, none, φ, he⟩
  have S1 : St K β σ H H1 (env.set i .u) := by
    refine S.wk ?_
    clear hx own S h0 h1 m hL hs hso
    induction env generalizing i with
    | nil => simp at hi
    | cons a as ih =>
      cases i with
      | zero => exact Wk.refl (a := as)
      | succ i =>
        have := ih (i := i) (by simpa using he) (by simpa using hi)
        show Wk (a :: as) (a :: as.set i .u)
        cases a with
        | u => exact this
        | d _ => exact ⟨rfl, this⟩
        | c _ => exact ⟨rfl, this⟩
        | o _ _ => exact ⟨rfl, this⟩
  have hb : β.B1 p = none := (S.loc i p φ hx he).elim (fun w => absurd w (hL p)) id
  have S2 := S1.freeze h0 h1 hb fun j ⟨w1, a, χ, w2⟩ => by
    by_cases e : i = j
    · subst e; rw [List.getElem?_set_self hi] at w2; exact nomatch w2
    · rw [List.getElem?_set_ne e] at w2
      exact e (S.env.inj i j p own ⟨w1, a, χ, w2⟩)
  have S3 := S2.set (v := .ref p) (r := s) (i := i) ⟨hs p o _ upd_same (m _ (Ex.new h0)), fun a χ e => absurd (by rw [e]; exact trivial) hso⟩ (by rw [List.length_set]; exact hi)
  rw [List.set_set] at S3
  have es : σ.set i (some (.ref p)) = σ := by
    refine List.ext_getElem? fun j => ?_
    by_cases e : i = j
    · subst e; rw [List.getElem?_set_self (by rw [S.env.len]; exact hi), hx]
    · rw [List.getElem?_set_ne e]
  rw [es] at S3
  exact ⟨_, S3, Ex.new h0⟩
end
end Ol
set_option Elab.async false
set_option linter.all false
set_option maxRecDepth 100000
set_option maxHeartbeats 2000000
/-! OlRule: the rules of the big steps. -/
namespace Ol
open PySem L2
open Evl (Ex Ex.refl Ex.trans Ex.new ex_l ex_t fresh_back sz_of sz_lt)
section
variable {X : Cx} {env env1 env2 env' : List Sd} {e a b : Expr} {es : List Expr} {pos : Pos} {d d1 d2 : PyData} {r : Sd} {out : Out}

/-! ### names, constants -/
theorem ev_n (i : Nat) {x : Str} {s : Sd} (hs : ¬ s.isO ∧ s ≠ .u) (h : env[i]? = some s) (hN : X.N[i]? = some x) (hv : Vis X.env.scope x) (hd : (x == ("__debug__" : Str)) = false) (hcd : (x == ("__classdict__" : Str)) = false) : Ev X (.Name x pos) env env s := fun β σ H H1 Q S q => by
  obtain ⟨y, hy, ok⟩ := S.env.at_ i s h
  have : ∃ v, y = some v := by
    cases s with
    | u => exact absurd rfl hs.2
    | d _ => obtain ⟨v, e, _⟩ := ok; exact ⟨v, e⟩
    | c _ => obtain ⟨p, o, e, _⟩ := ok; exact ⟨_, e⟩
    | o _ _ => exact absurd trivial hs.1
  obtain ⟨v, rfl⟩ := this
  exact teW.of (pe_var hN hv hd hcd) ⟨v, hy, q v H H1 S (Ex.refl H) ⟨ok, fun _ _ e => absurd (by rw [e]; exact trivial) hs.1⟩⟩
/-- a name that holds data -/
theorem ev (i : Nat) {x : Str} (h : env[i]? = some (.d d) := by rfl) (hN : X.N[i]? = some x := by rfl) (hv : Vis X.env.scope x := by first | exact Or.inl rfl | exact Or.inr (Or.inl rfl) | exact Or.inr (Or.inr rfl)) (hd : (x == ("__debug__" : Str)) = false := by decide)
    (hcd : (x == ("__classdict__" : Str)) = false := by decide) : Ev X (.Name x pos) env env (.d d) := ev_n i ⟨id, fun z => nomatch z⟩ h hN hv hd hcd
theorem ev_k (i : Nat) {x : Str} {φ : HO → Hp → Prop} (h : env[i]? = some (.c φ) := by rfl) (hN : X.N[i]? = some x := by rfl) (hv : Vis X.env.scope x := by first | exact Or.inl rfl | exact Or.inr (Or.inl rfl) | exact Or.inr (Or.inr rfl)) (hd : (x == ("__debug__" : Str)) = false := by decide)
    (hcd : (x == ("__classdict__" : Str)) = false := by decide) : Ev X (.Name x pos) env env (.c φ) := ev_n i ⟨id, fun z => nomatch z⟩ h hN hv hd hcd
theorem ev_const {v : V} (h : PE X e (tC v)) (p : ∀ H, Dp X.K H v d) : Ev X e env env (.d d) := fun β σ H H1 Q S q => teW.of h (q v H H1 S (Ex.refl H) (.dd (p H)))
theorem ev_int {i j} : Ev X (.Constant (.int i) j pos) env env (.d (.int i)) := ev_const pe_int fun _ => .int i
theorem ev_str {i j} : Ev X (.Constant (.str i) j pos) env env (.d (.str i)) := ev_const pe_str fun _ => .str i
theorem ev_bl {i j} : Ev X (.Constant (.bool i) j pos) env env (.d (.bool i)) := ev_const pe_bl fun _ => .bl i
theorem ev_non {j} : Ev X (.Constant .none j pos) env env (.d .none) := ev_const pe_non fun _ => .non
theorem Ev.cast {r' : Sd} (h : Ev X e env env' r) (q : r = r') : Ev X e env env' r' := by rw [← q]; exact h
theorem Ev.dc (h : Ev X e env env' (.d d1)) (q : d1 = d2) : Ev X e env env' (.d d2) := by rw [← q]; exact h
/-- a new list is no more changed -/
theorem Ev.frz {ds : List PyData} (h : Ev X e env env' (.o none (Lf X.K ds))) : Ev X e env env' (.d (.list ds)) := fun β σ H H1 Q S q => h β σ H H1 Q S fun v H' H2 S' ex R => by
  obtain ⟨p, o, rfl, _, h0, h1, m, hb, hn⟩ := R.o
  have e2 : Ex H' (upd H' p o) := Ex.new h0
  exact q _ _ _ (S'.freeze h0 h1 hb hn) (ex.trans e2) (.dd (Dp.frzO (m _ e2) upd_same))
theorem Ev.wk {env'' : List Sd} (h : Ev X e env env' (.d d)) (w : Wk env' env'') : Ev X e env env'' (.d d) := fun β σ H H1 Q S q => h β σ H H1 Q S fun v H' H2 S' ex R => q v H' H2 (S'.wk w) ex (.dd R.d)

/-! ### operations on values -/
def RvD (K : PySem.W.Frag) (r : R2) (d1 d2 : PyData) (res : Sd) : Prop := ∀ (H H1 : Hp) (x y : V) (Q : VK), Ex H H1 → Dp K H x d1 → Dp K H y d2 → KR K H H1 res Q → r x y H1 Q
theorem two {R : V → V → Hp → Prop} (ha : Ev X a env env1 (.d d1)) (hb : Ev X b env1 env2 (.d d2)) {β : Bs} {σ : L2.St} {H H1 : Hp} (S : St X.K β σ H H1 env)
    (h : ∀ x y H' H2, St X.K β σ H' H2 env2 → Ex H H' → Dp X.K H' x d1 → Dp X.K H' y d2 → R x y H2) : teW X a σ H1 fun x H2 => teW X b σ H2 fun y H3 => R x y H3 :=
  ha β σ H H1 _ S fun x Hb Ha S1 e1 p1 => hb β σ Hb Ha _ S1 fun y Hc Hd S2 e2 p2 => h x y Hc Hd S2 (e1.trans e2) (dp_ex e2 p1.d) p2.d
theorem KR.of {β : Bs} {σ : L2.St} {H0 H H1 : Hp} {Q : VK} (S : St X.K β σ H H1 env2) (e0 : Ex H0 H) (q : ∀ v H' H2, St X.K β σ H' H2 env2 → Ex H0 H' → ResOk X.K β σ env2 H' H2 v r → Q v H2) : KR X.K H H1 r Q :=
  fun v H' H2 u p => q v H' H2 (S.up u) (e0.trans u.ex) (p.res S)
theorem ev_op {op : Operator} {rr : R2} (ho : OpR X (binaryOp op) rr) (hr : RvD X.K rr d1 d2 r) (ha : Ev X a env env1 (.d d1)) (hb : Ev X b env1 env2 (.d d2)) : Ev X (.BinOp a op b pos) env env2 r := fun β σ H H1 Q S q =>
  teW.of (pe_op ho peW peW) (two ha hb S fun x y H' H2 S' e p1 p2 => hr H' H2 x y Q S'.ex p1 p2 (KR.of S' e q))
theorem ev_cmp {op : CmpOp} {rr : R2} (ho : OpR X (compareOp op) rr) (hr : RvD X.K rr d1 d2 r) (ha : Ev X a env env1 (.d d1)) (hb : Ev X b env1 env2 (.d d2)) (hm : behindInMarks op b = false := by first | exact nomark _ | rfl) : Ev X (.Compare a [op] [b] pos) env env2 r := fun β σ H H1 Q S q =>
  teW.of (pe_cmpR ho peW peW hm) (two ha hb S fun x y H' H2 S' e p1 p2 => hr H' H2 x y Q S'.ex p1 p2 (KR.of S' e q))
theorem ev_ix {rr : R2} (ho : IxR X rr) (hr : RvD X.K rr d1 d2 r) (ha : Ev X a env env1 (.d d1)) (hb : Ev X b env1 env2 (.d d2)) (hs : PlainIx b := by exact fun _ _ => rfl) : Ev X (.Subscript a b pos) env env2 r := fun β σ H H1 Q S q =>
  teW.of (pe_ix ho peW peW hs) (two ha hb S fun x y H' H2 S' e p1 p2 => hr H' H2 x y Q S'.ex p1 p2 (KR.of S' e q))
theorem ev_un {op : UnaryOp} {rr : V → Hp → VK → Prop} (ho : UnR X (unaryOp op) rr) (hr : ∀ (H H1 : Hp) (x : V) (Q : VK), Ex H H1 → Dp X.K H x d1 → KR X.K H H1 r Q → rr x H1 Q) (ha : Ev X a env env1 (.d d1)) : Ev X (.UnaryOp op a pos) env env1 r := fun β σ H H1 Q S q =>
  teW.of (pe_un ho peW) (ha β σ H H1 _ S fun x H' H2 S' e p => hr H' H2 x Q S'.ex p.d (KR.of S' e q))

/-! ### arguments -/
def Ed (X : Cx) (es : List Expr) (env env' : List Sd) (ds : List PyData) : Prop := ∀ (β : Bs) (σ : L2.St) (H H1 : Hp) (Q : List V → Hp → Prop), St X.K β σ H H1 env → (∀ vs H' H2, St X.K β σ H' H2 env' → Ex H H' → DpAll X.K H' vs ds → Q vs H2) → taW X es σ H1 Q
theorem ed_nil : Ed X [] env env [] := fun β σ H H1 Q S q => taW.of pa_nil (q [] H H1 S (Ex.refl H) .nil)
theorem ed_cons {ds : List PyData} (h : Ev X e env env1 (.d d)) (hr : Ed X es env1 env2 ds) (hs : starEach (e :: es) X.env = (false, eval e X.env) :: starEach es X.env := by rfl) : Ed X (e :: es) env env2 (d :: ds) := fun β σ H H1 Q S q =>
  taW.of (pa_cons peW paW hs) (h β σ H H1 _ S fun x Hb Ha S1 e1 p1 => hr β σ Hb Ha _ S1 fun vs Hc Hd S2 e2 p2 => q (x :: vs) Hc Hd S2 (e1.trans e2) (.cons (dp_ex e2 p1.d) p2))
theorem ed1 (h : Ev X e env env1 (.d d)) (hs : starEach [e] X.env = (false, eval e X.env) :: starEach [] X.env := by rfl) : Ed X [e] env env1 [d] := ed_cons h ed_nil hs
theorem ed2 (h : Ev X a env env1 (.d d1)) (h2 : Ev X b env1 env2 (.d d2)) (hs : starEach [a, b] X.env = (false, eval a X.env) :: starEach [b] X.env := by rfl) (hs2 : starEach [b] X.env = (false, eval b X.env) :: starEach [] X.env := by rfl) : Ed X [a, b] env env2 [d1, d2] := ed_cons h (ed1 h2 hs2) hs
/-- *a, a tuple, then more -/
theorem ed_star {ds ds2 : List PyData} {p : Pos} (h : Ev X e env env1 (.d (.tuple ds))) (hr : Ed X es env1 env2 ds2) (hP : ∀ te tr, PE X e te → PA X es tr → PA X (.Starred e p :: es) (StX.tStar X.K te tr)) : Ed X (.Starred e p :: es) env env2 (ds ++ ds2) := fun β σ H H1 Q S q =>
  taW.of (hP _ _ peW paW) (h β σ H H1 _ S fun x Hb Ha S1 e1 p1 => by
    obtain ⟨a, xs, rfl, hs, hd⟩ := dp_tup p1.d
    exact ⟨a, xs, rfl, Or.inl (ex_t S1.ex hs), hr β σ Hb Ha _ S1 fun vs Hc Hd S2 e2 p2 => q _ Hc Hd S2 (e1.trans e2) ((dpa_ex e2 hd).app p2)⟩)
theorem ed_starL {ds ds2 : List PyData} {p : Pos} (h : Ev X e env env1 (.d (.list ds))) (hr : Ed X es env1 env2 ds2) (hP : ∀ te tr, PE X e te → PA X es tr → PA X (.Starred e p :: es) (StX.tStar X.K te tr)) : Ed X (.Starred e p :: es) env env2 (ds ++ ds2) := fun β σ H H1 Q S q =>
  taW.of (hP _ _ peW paW) (h β σ H H1 _ S fun x Hb Ha S1 e1 p1 => by
    obtain ⟨a, xs, rfl, hs, hd⟩ := dp_lst p1.d
    exact ⟨a, xs, rfl, Or.inr (ex_l S1.ex hs), hr β σ Hb Ha _ S1 fun vs Hc Hd S2 e2 p2 => q _ Hc Hd S2 (e1.trans e2) ((dpa_ex e2 hd).app p2)⟩)
theorem ev_tup {x1} {ds : List PyData} (h : Ed X es env env' ds) (hl : ds.length ≤ 100000 := by exact Nat.le_of_ble_eq_true rfl) : Ev X (.Tuple es x1 pos) env env' (.d (.tuple ds)) := fun β σ H H1 Q S q =>
  teW.of (pe_tup paW) (h β σ H H1 _ S fun vs H' H2 S' e p => ⟨sz_of (by rw [p.len]; exact hl), (KR.of S' e q).newT S'.ex p⟩)
theorem ev_lst {ds : List PyData} (h : Ed X es env env' ds) (hl : ds.length ≤ 100000 := by exact Nat.le_of_ble_eq_true rfl) : Ev X (.List es pos) env env' (.o none (Lf X.K ds)) := fun β σ H H1 Q S q =>
  teW.of (pe_lst paW) (h β σ H H1 _ S fun vs H' H2 S' e p => ⟨sz_of (by rw [p.len]; exact hl), (KR.of S' e q).newL S'.ex p⟩)
/-- results kept beside one another -/
theorem el_nil : El X [] env env [] := fun β σ H H1 Q S q => taW.of pa_nil (q [] H H1 S (Ex.refl H) ⟨rfl, fun i v g h => by simp at h, fun i j p a φ b ψ h => by simp at h⟩)
theorem el_cons {gs : List Ag} (h : Ev X e env env1 r) (hr : El X es env1 env2 gs) (hs : starEach (e :: es) X.env = (false, eval e X.env) :: starEach es X.env := by rfl) : El X (e :: es) env env2 (.r r :: gs) := fun β σ H H1 Q S q =>
  taW.of (pa_cons peW paW hs) (h β σ H H1 _ S fun x Hb Ha S1 e1 p1 => hr (Bs.of σ Hb Ha env1) σ Hb Ha _ S1.self fun vs Hc Hd T e2 p2 => by
    have S2 := S1.back T
    have keepO : ∀ a φ, r = .o a φ → ∀ p, x = .ref p → Hc p = none ∧ Hd p = Ha p ∧ Ha p ≠ none ∧ ∀ i, ¬ OwnAt σ env2 i p := fun a φ er p ex => by
      obtain ⟨p', o, e', _, h0, h1, _, hb, hn⟩ := ResOk.o (er ▸ p1)
      rw [ex] at e'
      cases e'
      refine ⟨T.off p h0 (some_ne h1), ?_, some_ne h1, fun i w => ?_⟩
      · rw [h1]; exact T.keep p o (fun ⟨i, w⟩ => hn i w) h1
      · rcases T.own i p w with ⟨j, w'⟩ | z
        · exact hn j w'
        · exact nomatch h1.symm.trans z
    refine q (x :: vs) Hc Hd S2 (e1.trans e2) ⟨by rw [List.length_cons, List.length_cons, p2.len], fun i v g hv hg => ?_, fun i j p a φ b ψ hi hj gi gj => ?_⟩
    · cases i with
      | zero =>
        cases hv; cases hg
        refine ⟨p1.ok.up e2 fun p o ho h0 h1 ex => ?_, fun a φ er p ex => ⟨(p1.new a φ er p ex).1, (keepO a φ er p ex).2.2.2⟩⟩
        cases r with
        | o a φ =>
          obtain ⟨k1, k2, _⟩ := keepO a φ rfl p (Option.some.inj ex)
          exact ⟨k1, by rw [k2]; exact h1⟩
        | u => exact ho.elim
        | d _ => exact ho.elim
        | c _ => exact ho.elim
      | succ i =>
        have ok := p2.at_ i v g (by simpa using hv) (by simpa using hg)
        cases g with
        | b k => exact ok
        | r s =>
          refine ⟨ok.ok, fun a φ er p ex => ⟨?_, (ok.new a φ er p ex).2⟩⟩
          have n : Ha p = none := (ok.new a φ er p ex).1
          rcases none_or (H := β.B1) (a := p) with z | ⟨o, z⟩
          · exact z
          · exact absurd n (S1.there p (some_ne z))
    · cases i with
      | zero =>
        cases j with
        | zero => rfl
        | succ j =>
          cases gi
          have ex : x = .ref p := Option.some.inj hi
          have ok := p2.at_ j _ _ (by simpa using hj) (show gs[j]? = some _ by simpa using gj)
          exact absurd (ok.new b ψ rfl p rfl).1 (keepO a φ rfl p ex).2.2.1
      | succ i =>
        cases j with
        | zero =>
          cases gj
          have ex : x = .ref p := Option.some.inj hj
          have ok := p2.at_ i _ _ (by simpa using hi) (show gs[i]? = some _ by simpa using gi)
          exact absurd (ok.new a φ rfl p rfl).1 (keepO b ψ rfl p ex).2.2.1
        | succ j => exact congrArg (· + 1) (p2.inj i j p a φ b ψ (by simpa using hi) (by simpa using hj) (by simpa using gi) (by simpa using gj)))
/-- a name that holds an object of ours -/
theorem el_b (i : Nat) {x : Str} {gs : List Ag} {o : Option Addr} {φ : HO → Hp → Prop} (hr : El X es env env2 gs) (h : env[i]? = some (.o o φ) := by rfl) (hN : X.N[i]? = some x := by rfl)
    (hv : Vis X.env.scope x := by first | exact Or.inl rfl | exact Or.inr (Or.inl rfl) | exact Or.inr (Or.inr rfl)) (hd : (x == ("__debug__" : Str)) = false := by decide) (hcd : (x == ("__classdict__" : Str)) = false := by decide)
    (hs : starEach (.Name x pos :: es) X.env = (false, eval (.Name x pos) X.env) :: starEach es X.env := by rfl) : El X (.Name x pos :: es) env env2 (.b i :: gs) := fun β σ H H1 Q S q => by
  obtain ⟨y, hy, p, ob, ey, _⟩ := S.env.at_ i _ h
  subst ey
  refine taW.of (pa_cons (pe_var hN hv hd hcd) paW hs) ⟨.ref p, hy, hr β σ H H1 _ S fun vs H' H2 S' e2 p2 => ?_⟩
  refine q _ H' H2 S' e2 ⟨by rw [List.length_cons, List.length_cons, p2.len], fun k v g hv hg => ?_, fun k j p' a φ b ψ hi hj gi gj => ?_⟩
  · cases k with
    | zero => cases hv; cases hg; exact hy
    | succ k => exact p2.at_ k v g (by simpa using hv) (by simpa using hg)
  · cases k with
    | zero => cases gi
    | succ k =>
      cases j with
      | zero => cases gj
      | succ j => exact congrArg (· + 1) (p2.inj k j p' a φ b ψ (by simpa using hi) (by simpa using hj) (by simpa using gi) (by simpa using gj))

/-! ### calls of built-ins -/
def RcD (K : PySem.W.Frag) (rr : List V → Hp → VK → Prop) (ds : List PyData) (r : Sd) : Prop := ∀ (H H1 : Hp) (vs : List V) (Q : VK), Ex H H1 → DpAll K H vs ds → KR K H H1 r Q → rr vs H1 Q
variable {ds : List PyData} {x : Str} {p : Pos} {id T : String} {rr : List V → Hp → VK → Prop}
theorem ev_cb (hc : CallR X (.builtin id) rr) (hr : RcD X.K rr ds r) (hm : X.mg x = none) (ha : Ed X (e :: es) env env' ds) (hg : Gl X x := by rfl) (hv : bootBuiltins x = some (.builtin id) := by decide +kernel) (hn : x ≠ "__name__" := by decide) (hdb : (x == ("__debug__" : Str)) = false := by decide)
    (he : starEach (e :: es) X.env = (false, eval e X.env) :: starEach es X.env := by rfl) (hpl : (backTo pos (starEach es X.env)).any (·.1) = false := by rfl) : Ev X (.Call (.Name x p) (e :: es) [] pos) env env' r := fun β σ H H1 Q S q =>
  teW.of (pe_callB hc hg hm hv paW hn hdb he hpl) (ha β σ H H1 _ S fun vs H' H2 S' e p => hr H' H2 vs Q S'.ex p (KR.of S' e q))
theorem ev_ty (hc : CallR X (.type T) rr) (hr : RcD X.K rr ds r) (hm : X.mg x = none) (ha : Ed X (e :: es) env env' ds) (hg : Gl X x := by rfl) (hv : bootBuiltins x = some (.type T) := by decide +kernel) (hn : x ≠ "__name__" := by decide) (hdb : (x == ("__debug__" : Str)) = false := by decide)
    (he : starEach (e :: es) X.env = (false, eval e X.env) :: starEach es X.env := by rfl) (hpl : (backTo pos (starEach es X.env)).any (·.1) = false := by rfl) : Ev X (.Call (.Name x p) (e :: es) [] pos) env env' r := fun β σ H H1 Q S q =>
  teW.of (pe_callTy hc hg hm hv paW hn hdb he hpl) (ha β σ H H1 _ S fun vs H' H2 S' e p => hr H' H2 vs Q S'.ex p (KR.of S' e q))

/-! ### tests -/
theorem et_val (h : Ev X e env env' (.d (.bool bb))) (he : ∀ whole, isTrue e X.env whole = (do let v ← whole; standAt e.pos; holding [v] (truthy v)) := by intro _; rfl) : Et X e env env' bb := fun β σ H H1 Q S q =>
  ttW.of (pt_val peW he) (h β σ H H1 _ S fun v H' H2 S' ex R => ⟨bb, dp_bl R.d, q H' H2 S'⟩)
theorem et_cmp {op : CmpOp} {rr : R2} {bb : Bool} (ho : OpR X (compareOp op) rr) (hr : RvD X.K rr d1 d2 (.d (.bool bb))) (ha : Ev X a env env1 (.d d1)) (hb : Ev X b env1 env2 (.d d2)) (hm : behindInMarks op b = false := by first | exact nomark _ | rfl) : Et X (.Compare a [op] [b] pos) env env2 bb := fun β σ H H1 Q S q =>
  ttW.of (pt_cmpR ho peW peW hm) (two ha hb S fun x y H' H2 S' e p1 p2 => hr H' H2 x y _ S'.ex p1 p2 (KR.of S' e fun v Ha Hb Sb _ R => ⟨bb, dp_bl R.d, q Ha Hb Sb⟩))
theorem et_pc {op : CmpOp} {t : TE} {bb : Bool} (h : ∀ β σ H H1 (Q : VK), St X.K β σ H H1 env → (∀ H' H2, St X.K β σ H' H2 env' → Q (.bl bb) H2) → t σ H1 Q) (hp : PC X op a b t) (hm : behindInMarks op b = false := by first | exact nobehind _ (by decide) (by decide) | rfl) : Et X (.Compare a [op] [b] pos) env env' bb := fun β σ H H1 Q S q =>
  ttW.of (pt_cmp hp hm) (h β σ H H1 _ S fun H' H2 S' => ⟨bb, rfl, q H' H2 S'⟩)
theorem et_not {bb : Bool} (h : Et X a env env' bb) : Et X (.UnaryOp .Not a pos) env env' (!bb) := fun β σ H H1 Q S q =>
  ttW.of (pt_not ptW) (h β σ H H1 _ S fun H' H2 S' => q H' H2 S')
theorem ew_one {op : BoolOp} {bb : Bool} (h : Et X a env env' bb) (hp : ∀ t, PT X a t → PW X (.BoolOp op [a] pos) t) : Ew X (.BoolOp op [a] pos) env env' bb := fun β σ H H1 Q S q => ⟨fun wh pins s I =>
  (hp _ ptW).run wh pins s σ H1 Q I (h β σ H H1 Q S q)⟩
theorem ew_and {rest : List Expr} {x y : Bool} (ha : Et X a env env1 x) (hb : x = true → Ew X (.BoolOp .And (b :: rest) pos) env1 env2 y) (hf : x = false → env1 = env2) : Ew X (.BoolOp .And (a :: b :: rest) pos) env env2 (x && y) := fun β σ H H1 Q S q => ⟨fun wh pins s I =>
  (pw_and ptW pwW).run wh pins s σ H1 Q I (ha β σ H H1 _ S fun H' H2 S' => by
    cases x with
    | true => exact iteT (hb rfl β σ H' H2 _ S' q)
    | false => rw [hf rfl] at S'; exact iteF (q H' H2 S'))⟩
theorem ew_or {rest : List Expr} {x y : Bool} (ha : Et X a env env1 x) (hb : x = false → Ew X (.BoolOp .Or (b :: rest) pos) env1 env2 y) (hf : x = true → env1 = env2) : Ew X (.BoolOp .Or (a :: b :: rest) pos) env env2 (x || y) := fun β σ H H1 Q S q => ⟨fun wh pins s I =>
  (pw_or ptW pwW).run wh pins s σ H1 Q I (ha β σ H H1 _ S fun H' H2 S' => by
    cases x with
    | false => exact iteF (hb rfl β σ H' H2 _ S' q)
    | true => rw [hf rfl] at S'; exact iteT (q H' H2 S'))⟩
theorem Ew.t {bb : Bool} (h : Ew X e env env' bb) : Et X e env env' bb := fun β σ H H1 Q S q => ttW.of pwW.pt (h β σ H H1 Q S q)
theorem Et.cast {x y : Bool} (h : Et X e env env' x) (q : x = y) : Et X e env env' y := by rw [← q]; exact h
theorem Et.ex {bb : Bool} (h : Et X e env env' bb) {β : Bs} {σ : L2.St} {H H1 : Hp} {Q : Bool → Hp → Prop} (S : St X.K β σ H H1 env) (q : ∀ H' H2, St X.K β σ H' H2 env' → Ex H H' → Q bb H2) : ttW X e σ H1 Q :=
  h (Bs.of σ H H1 env) σ H H1 Q S.self fun H' H2 T => q H' H2 (S.back T) T.b
/-- values -/
theorem ev_if {c : Expr} {bb : Bool} (hc : Et X c env env1 bb) (h1 : bb = true → Ev X a env1 env2 r) (h2 : bb = false → Ev X b env1 env2 r) : Ev X (.IfExp c a b pos) env env2 r := fun β σ H H1 Q S q =>
  teW.of (pe_ifExp ptW peW peW) (hc.ex S fun H' H2 S' ex => by
    cases bb with
    | true => exact iteT (h1 rfl β σ H' H2 Q S' fun v Ha Hb Sb eb R => q v Ha Hb Sb (ex.trans eb) R)
    | false => exact iteF (h2 rfl β σ H' H2 Q S' fun v Ha Hb Sb eb R => q v Ha Hb Sb (ex.trans eb) R))
theorem ev_one {op : BoolOp} (h : Ev X a env env' r) : Ev X (.BoolOp op [a] pos) env env' r := fun β σ H H1 Q S q => teW.of (pe_one peW) (h β σ H H1 Q S q)
theorem ev_and {rest : List Expr} {x y : Bool} (ha : Ev X a env env1 (.d (.bool x))) (hb : x = true → Ev X (.BoolOp .And (b :: rest) pos) env1 env2 (.d (.bool y))) (hf : x = false → env1 = env2) : Ev X (.BoolOp .And (a :: b :: rest) pos) env env2 (.d (.bool (x && y))) := fun β σ H H1 Q S q =>
  teW.of (pe_and peW peW) (ha β σ H H1 _ S fun v H' H2 S' ex R => ⟨x, dp_bl R.d, by
    cases x with
    | true => exact iteT (hb rfl β σ H' H2 _ S' fun v Ha Hb Sb eb R => q v Ha Hb Sb (ex.trans eb) R)
    | false => rw [hf rfl] at S'; exact iteF (q _ H' H2 S' ex (.dd (.bl false)))⟩)
theorem ev_or {rest : List Expr} {x y : Bool} (ha : Ev X a env env1 (.d (.bool x))) (hb : x = false → Ev X (.BoolOp .Or (b :: rest) pos) env1 env2 (.d (.bool y))) (hf : x = true → env1 = env2) : Ev X (.BoolOp .Or (a :: b :: rest) pos) env env2 (.d (.bool (x || y))) := fun β σ H H1 Q S q =>
  teW.of (pe_or peW peW) (ha β σ H H1 _ S fun v H' H2 S' ex R => ⟨x, dp_bl R.d, by
    cases x with
    | false => exact iteF (hb rfl β σ H' H2 _ S' fun v Ha Hb Sb eb R => q v Ha Hb Sb (ex.trans eb) R)
    | true => rw [hf rfl] at S'; exact iteT (q _ H' H2 S' ex (.dd (.bl true)))⟩)
theorem ev_not {x : Bool} (ha : Ev X a env env1 (.d (.bool x))) : Ev X (.UnaryOp .Not a pos) env env1 (.d (.bool (!x))) := fun β σ H H1 Q S q =>
  teW.of (pe_not peW) (ha β σ H H1 _ S fun v H' H2 S' ex R => ⟨x, dp_bl R.d, q _ H' H2 S' ex (.dd (.bl _))⟩)
theorem ev_isN {x : Bool} {j pos'} (ha : Ev X a env env1 (.d d)) (hx : ∀ H v, Dp X.K H v d → decide (v = .non) = x) : Ev X (.Compare a [.Is] [.Constant .none j pos'] pos) env env1 (.d (.bool x)) := fun β σ H H1 Q S q =>
  teW.of (pe_cmp (pc_isN peW)) (ha β σ H H1 _ S fun v H' H2 S' ex R => by
    rw [hx H' v R.d]
    exact q _ H' H2 S' ex (.dd (.bl _)))

/-! ### statements -/
variable {st : Stmt} {rest body : List Stmt}
theorem rn_nil : Rn X [] env (.nx env) := fun β σ H H1 D _ S C => tssW.of pss_nil (C σ H H1 S)
theorem rn_cons (h1 : R1 X st env (.nx env1)) (h2 : Rn X rest env1 out) : Rn X (st :: rest) env out := fun β σ H H1 D hL S C =>
  tssW.of (pss_cons psW pssW) (h1 β σ H H1 _ hL S fun σ' H' H2 S' => h2 β σ' H' H2 D hL S' C)
theorem rn_last (h1 : R1 X st env (.rt env1 r)) : Rn X (st :: rest) env (.rt env1 r) := fun β σ H H1 D hL S C =>
  tssW.of (pss_cons psW pssW) (h1 β σ H H1 _ hL S C)
theorem Rn.wk (h : Rn X rest env (.nx env1)) (w : Wk env1 env2) : Rn X rest env (.nx env2) := fun β σ H H1 D hL S C => h β σ H H1 D hL S fun σ' H' H2 S' => C σ' H' H2 (S'.wk w)
theorem R1.wk (h : R1 X st env (.nx env1)) (w : Wk env1 env2) : R1 X st env (.nx env2) := fun β σ H H1 D hL S C => h β σ H H1 D hL S fun σ' H' H2 S' => C σ' H' H2 (S'.wk w)
theorem Rn.pre (w : Wk env env1) (h : Rn X rest env1 out) : Rn X rest env out := fun β σ H H1 D hL S C => h β σ H H1 D hL (S.wk w) C
theorem R1.pre (w : Wk env env1) (h : R1 X st env1 out) : R1 X st env out := fun β σ H H1 D hL S C => h β σ H H1 D hL (S.wk w) C
/-- the object in slot i is told -/
theorem rn_frz (i : Nat) {ds : List PyData} (h : Rn X rest (env.set i (.d (.list ds))) out) (hi : env[i]? = some (.o none (Lf X.K ds)) := by rfl) : Rn X rest env out := fun β σ H H1 D hL S C => by
  obtain ⟨H', S', _⟩ := S.frzAt (s := .d (.list ds)) hi hL (fun p o H' e f => ⟨_, rfl, Dp.frzO f e⟩) id
  exact h β σ H' H1 D hL S' C
theorem r1_set (i : Nat) {x : Str} {pos' : Pos} (he : Ev X e env env1 r) (hN : X.N.Nodup) (hi : X.N[i]? = some x := by rfl) (hx : Loc X.env.scope x := by first | exact Or.inl rfl | exact Or.inr rfl) (hl : i < env1.length := by exact Nat.le_of_ble_eq_true rfl)
    (hs : swapsWith e (some (.Name x pos')) pos.line X.env = pure false := by rfl) (hf : X.fn x = true ∨ X.env.scope.names.lookup x = some .local := by first | exact .inl rfl | exact .inr rfl) : R1 X (.Assign [.Name x pos'] e pos) env (.nx (env1.set i r)) := fun β σ H H1 D hL S C =>
  tsW.of (ps_set hN hi hx peW hs hf) (he β σ H H1 _ S fun v H' H2 S' ex R => C _ H' H2 (S'.set R hl))
theorem r1_expr (he : Ev X e env env1 r) (hs : swapsWith e none pos.line X.env = pure false := by rfl) : R1 X (.Expr e pos) env (.nx env1) := fun β σ H H1 D hL S C =>
  tsW.of (ps_expr peW hs) (he β σ H H1 _ S fun v H' H2 S' ex R => C σ H' H2 S')
theorem r1_ret (he : Ev X e env env1 r) : R1 X (.Return (some e) pos) env (.rt env1 r) := fun β σ H H1 D hL S C =>
  tsW.of (ps_ret peW) (he β σ H H1 _ S fun v H' H2 S' ex R => C σ v H' H2 S' R)
theorem r1_if {c : Expr} {ss ts : List Stmt} {bb : Bool} (hc : Et X c env env1 bb) (h1 : bb = true → Rn X ss env1 out) (h2 : bb = false → Rn X ts env1 out) : R1 X (.If c ss ts pos) env out := fun β σ H H1 D hL S C =>
  tsW.of (ps_if ptW pssW pssW) (hc β σ H H1 _ S fun H' H2 S' => by
    cases bb with
    | true => exact iteT (h1 rfl β σ H' H2 D hL S' C)
    | false => exact iteF (h2 rfl β σ H' H2 D hL S' C))
/-- stores -/
theorem tg_name (i : Nat) {x : Str} (hN : X.N.Nodup) (hi : X.N[i]? = some x := by rfl) (hx : Loc X.env.scope x := by first | exact Or.inl rfl | exact Or.inr rfl) (hl : i < env.length := by exact Nat.le_of_ble_eq_true rfl)
    (hf : X.fn x = true ∨ X.env.scope.names.lookup x = some .local := by first | exact .inl rfl | exact .inr rfl) : Tg X (.Name x pos) [i] d env (env.set i (.d d)) := fun β σ H H1 v Q S p q =>
  tgW.of (pg_name hN hi hx hf) (q _ (S.set (.dd p) hl) (by rw [List.length_set]) fun j hj => List.getElem?_set_ne (fun z => hj (by rw [← z]; exact List.mem_singleton.mpr rfl)))
end
end Ol
set_option Elab.async false
set_option linter.all false
set_option maxRecDepth 100000
set_option maxHeartbeats 2000000
/-! OlFlow: targets, what is walked, loops, comprehensions, calls of defs, a def's promise. -/
namespace Ol
open PySem L2
open Evl (Ex Ex.refl Ex.trans Ex.new ex_l ex_t fresh_back sz_of sz_lt)
section
variable {X : Cx} {env env1 env2 env' : List Sd} {e a b : Expr} {es : List Expr} {pos : Pos} {d d1 d2 : PyData} {r : Sd} {out : Out} {st : Stmt} {rest body : List Stmt}
structure tgsW (X : Cx) (ts : List Expr) (vs : List V) (σ : L2.St) (H : Hp) (Q : L2.St → Hp → Prop) : Prop where of' :: run : ∀ (pins : List (Addr × Obj)) (s : Shared) (us : List Value), L2.Inv X pins σ H s → Vals vs us → wpAny (model X.prog X.w) X.A (assignInOrder ((assignEach ts X.env).map (·.2)) us) (fun _ s' => ∃ σ' H', L2.Inv X pins σ' H' s' ∧ Q σ' H') X.xe s
theorem pgsW {ts : List Expr} : PGs X ts (tgsW X ts) := ⟨fun pins s _ _ _ us _ I r h => h.run pins s us I r⟩
theorem tgsW.of {ts : List Expr} {t : TGs} {vs : List V} {σ : L2.St} {H : Hp} {Q : L2.St → Hp → Prop} (h : PGs X ts t) (q : t vs σ H Q) : tgsW X ts vs σ H Q := ⟨fun pins s us I r => h.run pins s σ H vs us Q I r q⟩
def Tgs (X : Cx) (ts : List Expr) (vs : List Nat) (ds : List PyData) (env env' : List Sd) : Prop := ∀ (β : Bs) (σ : L2.St) (H H1 : Hp) (us : List V) (Q : L2.St → Hp → Prop), St X.K β σ H H1 env → DpAll X.K H us ds →
  (∀ σ', St X.K β σ' H H1 env' → σ'.length = σ.length → (∀ j, j ∉ vs → σ'[j]? = σ[j]?) → Q σ' H1) → tgsW X ts us σ H1 Q
theorem tgs_nil : Tgs X [] [] [] env env := fun β σ H H1 us Q S p q => by
  cases p
  exact tgsW.of pgs_nil ⟨rfl, q σ S rfl fun _ _ => rfl⟩
theorem tgs_cons {vs ws : List Nat} {ds : List PyData} {t : Expr} {ts : List Expr} (h : Tg X t vs d env env1) (hr : Tgs X ts ws ds env1 env2) (hs : (assignEach (t :: ts) X.env).map (·.2) = assign t X.env :: (assignEach ts X.env).map (·.2) := by rfl) : Tgs X (t :: ts) (vs ++ ws) (d :: ds) env env2 := fun β σ H H1 us Q S p q => by
  cases p with
  | cons p1 p2 =>
    refine tgsW.of (pgs_cons pgW pgsW hs) ⟨_, _, rfl, h β σ H H1 _ _ S p1 fun σ1 S1 l1 k1 => hr β σ1 H H1 _ Q S1 p2 fun σ2 S2 l2 k2 => q σ2 S2 (l2.trans l1) fun j hj => ?_⟩
    rw [List.mem_append] at hj
    rw [k2 j fun z => hj (.inr z), k1 j fun z => hj (.inl z)]
theorem tg_tup {vs : List Nat} {ds : List PyData} {ts : List Expr} {k : Nat} (h : Tgs X ts vs ds env env1) (hc : X.calm = true := by rfl) (hl : (assignEach ts X.env).length = ds.length := by rfl) (hst : (assignEach ts X.env).findIdx? (·.1) = none := by rfl) : Tg X (.Tuple ts k pos) vs (.tuple ds) env env1 := fun β σ H H1 v Q S p q => by
  obtain ⟨a, xs, rfl, hs, hd⟩ := dp_tup p
  exact tgW.of (pg_tup hc pgsW hl hst) ⟨a, xs, rfl, ex_t S.ex hs, hd.len, h β σ H H1 xs Q S hd q⟩
theorem Tg.cast {vs ws : List Nat} {t : Expr} (h : Tg X t vs d env env1) (q : vs = ws) : Tg X t ws d env env1 := by rw [← q]; exact h
theorem r1_asg {vs : List Nat} {tg : Expr} (he : Ev X e env env1 (.d d)) (ht : Tg X tg vs d env1 env2) (hs : swapsWithSole [tg] e pos.line X.env = pure false := by rfl) (hw : swappedStores [tg] e X.env = pure none := by rfl)
    (h1 : (assignEach [tg] X.env).map (·.2) = [assign tg X.env] := by rfl) : R1 X (.Assign [tg] e pos) env (.nx env2) := fun β σ H H1 D hL S C =>
  tsW.of (ps_asg peW pgW hs hw h1) (he β σ H H1 _ S fun v H' H2 S' ex R => ht β σ H' H2 v _ S' R.d fun σ' S2 _ _ => C σ' H' H2 S2)
/-- a, b = e1, e2: plain locals -/
theorem r1_par (i j : Nat) {r1 r2 : Sd} {x y : Str} {px py pt : Pos} {kt k2 pt2} (ha : El X [a, b] env env1 [.r r1, .r r2]) (hN : X.N.Nodup) (hi : X.N[i]? = some x := by rfl) (hj : X.N[j]? = some y := by rfl) (hij : i ≠ j := by decide)
    (hx : X.env.scope.names.lookup x = some .local := by rfl) (hy : X.env.scope.names.lookup y = some .local := by rfl) (hc : X.calm = true := by rfl) (hli : i < env1.length := by exact Nat.le_of_ble_eq_true rfl) (hlj : j < env1.length := by exact Nat.le_of_ble_eq_true rfl)
    (hw : swappedStores [.Tuple [.Name x px, .Name y py] kt pt] (.Tuple [a, b] k2 pt2) X.env = pure (some [x, y]) := by rfl)
    (hs : swapsWithSole [.Tuple [.Name x px, .Name y py] kt pt] (.Tuple [a, b] k2 pt2) pos.line X.env = pure false := by rfl) :
    R1 X (.Assign [.Tuple [.Name x px, .Name y py] kt pt] (.Tuple [a, b] k2 pt2) pos) env (.nx ((env1.set i r1).set j r2)) := fun β σ H H1 D hL S C =>
  tsW.of (ps_par hc hN hi hj hij hx hy paW hw hs) (ha β σ H H1 _ S fun vs H' H2 S' ex G => by
    match vs, G with
    | [v, w], G =>
      have g1 : ResOk _ _ _ _ _ _ v r1 := G.at_ 0 v _ rfl rfl
      have g2 : ResOk _ _ _ _ _ _ w r2 := G.at_ 1 w _ rfl rfl
      refine ⟨v, w, rfl, C _ H' H2 ((S'.set g1 hli).set ⟨g2.ok, fun a φ er p ew => ⟨(g2.new a φ er p ew).1, fun k ⟨w1, c, ψ, w2⟩ => ?_⟩⟩ (by rw [List.length_set]; exact hlj))⟩
      by_cases ek : i = k
      · subst ek
        rw [List.getElem?_set_self (by rw [S'.env.len]; exact hli)] at w1
        rw [List.getElem?_set_self hli] at w2
        have e1 : v = .ref p := Option.some.inj (Option.some.inj w1)
        have e2 : r1 = .o c ψ := Option.some.inj w2
        have := G.inj 0 1 p c ψ a φ (by rw [← e1]; rfl) (by rw [← ew]; rfl) (by rw [← e2]; rfl) (by rw [← er]; rfl)
        exact nomatch this
      · rw [List.getElem?_set_ne ek] at w1 w2
        exact (g2.new a φ er p ew).2 k ⟨w1, c, ψ, w2⟩
    | [], G => exact absurd G.len (by simp)
    | [_], G => exact absurd G.len (by simp)
    | _ :: _ :: _ :: _, G => exact absurd G.len (by simp))

/-! ### what is walked -/
theorem jok_list {K : PySem.W.Frag} {p : Addr} {xs : List V} {ds : List PyData} {H : Hp} (hs : SqL K H p xs) (hd : DpAll K H xs ds) : JOk K (Itl K p) ds H := fun i Hb Ha e1 e2 => by
  refine ⟨fun d h => ?_, fun hh => have h := Nat.le_of_eq hh.symm; ?_⟩
  · obtain ⟨x, hx, px⟩ := hd.get h
    have s2 := ex_l (e1.trans e2) hs
    refine ⟨⟨xs, x, s2, hx⟩, fun y Ha' hy => ?_⟩
    obtain ⟨rfl, f⟩ := hy
    have : y = x := Option.some.inj ((f xs s2).symm.trans hx)
    subst this
    exact ⟨Hb, Up.refl e2, dp_ex e1 px⟩
  · exact ⟨xs, ex_l (e1.trans e2) hs, by rw [hd.len]; exact h⟩
theorem jok_tup {K : PySem.W.Frag} {p : Addr} {xs : List V} {ds : List PyData} {H : Hp} (hs : SqT K H p xs) (hd : DpAll K H xs ds) : JOk K (Itt K p) ds H := fun i Hb Ha e1 e2 => by
  refine ⟨fun d h => ?_, fun hh => have h := Nat.le_of_eq hh.symm; ?_⟩
  · obtain ⟨x, hx, px⟩ := hd.get h
    have s2 := ex_t (e1.trans e2) hs
    refine ⟨⟨xs, x, s2, hx⟩, fun y Ha' hy => ?_⟩
    obtain ⟨rfl, f⟩ := hy
    have : y = x := Option.some.inj ((f xs s2).symm.trans hx)
    subst this
    exact ⟨Hb, Up.refl e2, dp_ex e1 px⟩
  · exact ⟨xs, ex_t (e1.trans e2) hs, by rw [hd.len]; exact h⟩
def irange (lo : Int) (n : Nat) : List PyData := (List.range n).map fun (i : Nat) => .int (lo + i)
theorem irange_get {lo : Int} {n i : Nat} {d : PyData} (h : (irange lo n)[i]? = some d) : i < n ∧ d = .int (lo + i) := by
  unfold irange at h
  rw [List.getElem?_map] at h
  rcases Nat.lt_or_ge i n with z | z
  · rw [List.getElem?_range z] at h; cases h; exact ⟨z, rfl⟩
  · rw [List.getElem?_eq_none (by rw [List.length_range]; exact z)] at h; cases h
theorem irange_len {lo : Int} {n : Nat} : (irange lo n).length = n := by unfold irange; simp
theorem jok_rng {K : PySem.W.Frag} {lo : Int} {n : Nat} {H : Hp} : JOk K (Itr lo n) (irange lo n) H := fun i Hb Ha e1 e2 => by
  refine ⟨fun d h => ?_, fun hh => have h := Nat.le_of_eq hh.symm; ?_⟩
  · obtain ⟨hi, rfl⟩ := irange_get h
    refine ⟨hi, fun y Ha' hy => ?_⟩
    obtain ⟨rfl, rfl⟩ := hy
    exact ⟨Hb, Up.refl e2, .int _⟩
  · rw [irange_len] at h; exact h
def numbered (n : Nat) : List PyData → List PyData
  | [] => []
  | d :: ds => .tuple [.int n, d] :: numbered (n + 1) ds
theorem numbered_get : ∀ {ds : List PyData} {n i : Nat} {d : PyData}, (numbered n ds)[i]? = some d → ∃ x, ds[i]? = some x ∧ d = .tuple [.int (n + i : Nat), x]
  | [], n, i, d, h => by simp [numbered] at h
  | x :: ds, n, 0, d, h => by simp [numbered] at h; exact ⟨x, rfl, h.symm⟩
  | x :: ds, n, i + 1, d, h => by
    obtain ⟨y, hy, e⟩ := numbered_get (n := n + 1) (i := i) (d := d) (ds := ds) (by simpa [numbered] using h)
    exact ⟨y, by simpa using hy, by rw [e, show n + 1 + i = n + (i + 1) by omega]⟩
theorem numbered_len : ∀ {ds : List PyData} {n : Nat}, (numbered n ds).length = ds.length
  | [], n => rfl
  | x :: ds, n => congrArg (· + 1) (numbered_len (ds := ds) (n := n + 1))
theorem jok_enum {K : PySem.W.Frag} {p : Addr} {xs : List V} {ds : List PyData} {H : Hp} (hs : SqL K H p xs) (hd : DpAll K H xs ds) : JOk K (Ite K p) (numbered 0 ds) H := fun i Hb Ha e1 e2 => by
  refine ⟨fun d h => ?_, fun hh => have h := Nat.le_of_eq hh.symm; ?_⟩
  · obtain ⟨d', hd', rfl⟩ := numbered_get h
    obtain ⟨x, hx, px⟩ := hd.get hd'
    have s2 := ex_l (e1.trans e2) hs
    refine ⟨⟨xs, x, s2, hx⟩, fun y Ha' hy => ?_⟩
    obtain ⟨T, x', rfl, nT, rfl, f⟩ := hy
    have : x' = x := Option.some.inj ((f xs s2).symm.trans hx)
    subst this
    refine ⟨_, Up.new e2 nT, .tup (SqT.of upd_same) (.cons ?_ (.cons (dp_ex (e1.trans (Ex.new (fresh_back e2 nT))) px) .nil))⟩
    rw [Nat.zero_add]
    exact .int _
  · rw [numbered_len] at h
    exact ⟨xs, ex_l (e1.trans e2) hs, by rw [hd.len]; exact h⟩
def zipD (as bs : List PyData) : List PyData := (as.zip bs).map fun p => .tuple [p.1, p.2]
theorem zipD_get {as bs : List PyData} {i : Nat} {d : PyData} (h : (zipD as bs)[i]? = some d) : ∃ x y, as[i]? = some x ∧ bs[i]? = some y ∧ d = .tuple [x, y] := by
  unfold zipD at h
  rw [List.getElem?_map] at h
  cases e : (as.zip bs)[i]? with
  | none => rw [e] at h; cases h
  | some p => rw [e] at h; have := List.getElem?_zip_eq_some.mp e; cases h; exact ⟨p.1, p.2, this.1, this.2, rfl⟩
theorem zipD_len {as bs : List PyData} : (zipD as bs).length = min as.length bs.length := by unfold zipD; rw [List.length_map, List.length_zip]
theorem jok_zipL {K : PySem.W.Frag} {p q : Addr} {xs ys : List V} {ds es : List PyData} {H : Hp} (hs : SqL K H p xs) (hd : DpAll K H xs ds) (hs2 : SqL K H q ys) (hd2 : DpAll K H ys es) : JOk K (Itz K p q) (zipD ds es) H := fun i Hb Ha e1 e2 => by
  have s1 := ex_l (e1.trans e2) hs
  have s2 := ex_l (e1.trans e2) hs2
  refine ⟨fun d h => ?_, fun hh => have h := Nat.le_of_eq hh.symm; ?_⟩
  · obtain ⟨x, y, hx, hy, rfl⟩ := zipD_get h
    obtain ⟨x', hx', px⟩ := hd.get hx
    obtain ⟨y', hy', py⟩ := hd2.get hy
    refine ⟨⟨xs, ys, x', y', s1, s2, hx', hy'⟩, fun z Ha' hz => ?_⟩
    obtain ⟨T, a, b, rfl, nT, rfl, f, g⟩ := hz
    have ea : a = x' := Option.some.inj ((f xs s1).symm.trans hx')
    have eb : b = y' := Option.some.inj ((g ys s2).symm.trans hy')
    subst ea eb
    have en := Ex.new (o := .tup [a, b]) (fresh_back e2 nT)
    exact ⟨_, Up.new e2 nT, .tup (SqT.of upd_same) (.cons (dp_ex (e1.trans en) px) (.cons (dp_ex (e1.trans en) py) .nil))⟩
  · rw [zipD_len] at h
    refine ⟨xs, ys, s1, s2, ?_⟩
    rw [hd.len, hd2.len]
    omega
theorem jok_zipT {K : PySem.W.Frag} {p q : Addr} {xs ys : List V} {ds es : List PyData} {H : Hp} (hs : SqT K H p xs) (hd : DpAll K H xs ds) (hs2 : SqT K H q ys) (hd2 : DpAll K H ys es) : JOk K (RZ.ItzT K p q) (zipD ds es) H := fun i Hb Ha e1 e2 => by
  have s1 := ex_t (e1.trans e2) hs
  have s2 := ex_t (e1.trans e2) hs2
  refine ⟨fun d h => ?_, fun hh => have h := Nat.le_of_eq hh.symm; ?_⟩
  · obtain ⟨x, y, hx, hy, rfl⟩ := zipD_get h
    obtain ⟨x', hx', px⟩ := hd.get hx
    obtain ⟨y', hy', py⟩ := hd2.get hy
    refine ⟨⟨xs, ys, x', y', s1, s2, hx', hy'⟩, fun z Ha' hz => ?_⟩
    obtain ⟨T, a, b, rfl, nT, rfl, f, g⟩ := hz
    have ea : a = x' := Option.some.inj ((f xs s1).symm.trans hx')
    have eb : b = y' := Option.some.inj ((g ys s2).symm.trans hy')
    subst ea eb
    have en := Ex.new (o := .tup [a, b]) (fresh_back e2 nT)
    exact ⟨_, Up.new e2 nT, .tup (SqT.of upd_same) (.cons (dp_ex (e1.trans en) px) (.cons (dp_ex (e1.trans en) py) .nil))⟩
  · rw [zipD_len] at h
    refine ⟨xs, ys, s1, s2, ?_⟩
    rw [hd.len, hd2.len]
    omega
variable {tg : Expr} {ds ds2 : List PyData}
theorem ei_list (h : Ev X e env env' (.d (.list ds))) : Ei X tg e env env' ds := fun β σ H H1 R S q => tiW.of (pi_list peW) (h β σ H H1 _ S fun v H' H2 S' ex p => by
  obtain ⟨a, xs, rfl, hs, hd⟩ := dp_lst p.d
  exact ⟨a, rfl, ⟨xs, ex_l S'.ex hs⟩, q _ H' H2 S' ex (jok_list hs hd)⟩)
theorem ei_tup (h : Ev X e env env' (.d (.tuple ds))) : Ei X tg e env env' ds := fun β σ H H1 R S q => tiW.of (pi_tup peW) (h β σ H H1 _ S fun v H' H2 S' ex p => by
  obtain ⟨a, xs, rfl, hs, hd⟩ := dp_tup p.d
  exact ⟨a, rfl, ⟨xs, ex_t S'.ex hs⟩, q _ H' H2 S' ex (jok_tup hs hd)⟩)
theorem ei_range1 {n : Int} {p : Pos} (hm : X.mg "range" = none) (h : Ed X [a] env env' [.int n]) (h1 : -(2 ^ 62) ≤ n) (h2 : n < 2 ^ 62) (hg : Gl X "range" := by rfl) (hs : starEach [a] X.env = [(false, eval a X.env)] := by rfl) : Ei X tg (.Call (.Name "range" p) [a] [] pos) env env' (irange 0 n.toNat) := fun β σ H H1 R S q =>
  tiW.of (pi_range1 hg hm paW hs) (h β σ H H1 _ S fun vs H' H2 S' ex p => by
    have ev : vs = [.int n] := DpAll.ints (ns := [n]) p
    exact ⟨n, ev, h1, h2, q _ H' H2 S' ex jok_rng⟩)
theorem ei_enum {p tpos : Pos} {elts : List Expr} {kk : Nat} (hm : X.mg "enumerate" = none) (h : Ed X [e] env env' [.list ds]) (hg : Gl X "enumerate" := by rfl) (hs : starEach [e] X.env = [(false, eval e X.env)] := by rfl) : Ei X (.Tuple elts kk tpos) (.Call (.Name "enumerate" p) [e] [] pos) env env' (numbered 0 ds) := fun β σ H H1 R S q =>
  tiW.of (pi_enum hg hm paW hs) (h β σ H H1 _ S fun vs H' H2 S' ex p => by
    cases p with
    | cons p1 p2 =>
      cases p2
      obtain ⟨a, xs, rfl, hs, hd⟩ := dp_lst p1
      exact ⟨a, xs, rfl, ex_l S'.ex hs, q _ H' H2 S' ex (jok_enum hs hd)⟩)
theorem ei_zipL {p tpos : Pos} {elts : List Expr} {kk : Nat} {e2 : Expr} (hm : X.mg "zip" = none) (h : Ed X [e, e2] env env' [.list ds, .list ds2]) (hg : Gl X "zip" := by rfl) (hs : starEach [e, e2] X.env = (false, eval e X.env) :: starEach [e2] X.env := by rfl)
    (hpl : (backTo pos (starEach [e2] X.env)).any (·.1) = false := by rfl) : Ei X (.Tuple elts kk tpos) (.Call (.Name "zip" p) [e, e2] [] pos) env env' (zipD ds ds2) := fun β σ H H1 R S q =>
  tiW.of (RZ.pi_zipA hg hm paW hs hpl) (h β σ H H1 _ S fun vs H' H2 S' ex p => by
    cases p with
    | cons p1 p2 =>
      cases p2 with
      | cons p2 p3 =>
        cases p3
        obtain ⟨a, xs, rfl, hs, hd⟩ := dp_lst p1
        obtain ⟨b, ys, rfl, hs2, hd2⟩ := dp_lst p2
        exact ⟨a, b, xs, ys, rfl, .inl ⟨ex_l S'.ex hs, ex_l S'.ex hs2, q _ H' H2 S' ex (jok_zipL hs hd hs2 hd2)⟩⟩)
theorem ei_zipT {p tpos : Pos} {elts : List Expr} {kk : Nat} {e2 : Expr} (hm : X.mg "zip" = none) (h : Ed X [e, e2] env env' [.tuple ds, .tuple ds2]) (hg : Gl X "zip" := by rfl) (hs : starEach [e, e2] X.env = (false, eval e X.env) :: starEach [e2] X.env := by rfl)
    (hpl : (backTo pos (starEach [e2] X.env)).any (·.1) = false := by rfl) : Ei X (.Tuple elts kk tpos) (.Call (.Name "zip" p) [e, e2] [] pos) env env' (zipD ds ds2) := fun β σ H H1 R S q =>
  tiW.of (RZ.pi_zipA hg hm paW hs hpl) (h β σ H H1 _ S fun vs H' H2 S' ex p => by
    cases p with
    | cons p1 p2 =>
      cases p2 with
      | cons p2 p3 =>
        cases p3
        obtain ⟨a, xs, rfl, hs, hd⟩ := dp_tup p1
        obtain ⟨b, ys, rfl, hs2, hd2⟩ := dp_tup p2
        exact ⟨a, b, xs, ys, rfl, .inr ⟨ex_t S'.ex hs, ex_t S'.ex hs2, q _ H' H2 S' ex (jok_zipT hs hd hs2 hd2)⟩⟩)

/-! ### for -/
abbrev Bs.at (β : Bs) (H : Hp) : Bs := { β with B := H }
theorem St.lift {K : PySem.W.Frag} {β : Bs} {σ σ0 : L2.St} {H H1 H0 H10 : Hp} {env env0 : List Sd} (S0 : St K β σ0 H0 H10 env0) (S : St K β σ H H1 env) (e : Ex H0 H) : St K (β.at H0) σ H H1 env where
  env := S.env
  ex := S.ex
  b := e
  there := S.there
  keep := S.keep
  off a h h1 := S.off a (fresh_back S0.b h) h1
  own := S.own
  loc := S.loc
theorem St.drop {K : PySem.W.Frag} {β : Bs} {σ σ0 : L2.St} {H H1 H0 H10 : Hp} {env env0 : List Sd} (S0 : St K β σ0 H0 H10 env0) (S : St K (β.at H0) σ H H1 env) : St K β σ H H1 env where
  env := S.env
  ex := S.ex
  b := S0.b.trans S.b
  there := S.there
  keep := S.keep
  off a h h1 := S.off a (S0.off a h h1) h1
  own := S.own
  loc := S.loc
/-- the turns: envs i, then the target's store, the body, envs (i + 1) -/
theorem r1_for {iter : Expr} (vs : List Nat) (envs : Nat → List Sd) (hp : PassesOwn (model X.prog X.w) X.A X.env X.xe) (hi : Ei X tg iter env env1 ds) (h0 : Wk env1 (envs 0))
    (ht : ∀ i d, ds[i]? = some d → ∃ e1, Tg X tg vs d (envs i) e1 ∧ Rn X body e1 (.nx (envs (i + 1)))) (hc : X.calm = true := by rfl) (hs : ∀ x, foldedSetIterable iter X.env x = pure x := by intro _; rfl) :
    R1 X (.For tg iter body [] pos) env (.nx (envs ds.length)) := fun β σ H H1 D hL S C =>
  tsW.of (ps_for hp hc piW pgW pssW hs) (hi β σ H H1 _ S fun J H' H2 S' ex jo => by
    refine ⟨fun i m σ1 Ha => ∃ Hb, St X.K β σ1 Hb Ha (envs i) ∧ Ex H' Hb ∧ i + m = ds.length, ⟨ds.length, H', S'.wk h0, Ex.refl H', by omega⟩, fun i m σ1 Ha ⟨Hb, S1, e1, hm⟩ => ?_⟩
    rcases Nat.lt_or_ge i ds.length with hi' | hi'
    · have hd := List.getElem?_eq_getElem hi'
      obtain ⟨g, y⟩ := (jo i Hb Ha e1 S1.ex).1 _ hd
      obtain ⟨ev1, t1, b1⟩ := ht i _ hd
      refine .inr ⟨g, fun σ' Ha' => ∃ Hb', St X.K β σ' Hb' Ha' (envs (i + 1)) ∧ Ex H' Hb', fun σ' Ha' ⟨Hb', S2, e2⟩ => ⟨m - 1, by omega, Hb', S2, e2, by omega⟩, fun x Ha' hy => ?_⟩
      obtain ⟨Hb', u, p⟩ := y x Ha' hy
      exact t1 β σ1 Hb' Ha' x _ (S1.up u) p fun σ2 S2 _ _ => b1 (β.at H') σ2 Hb' Ha' _ hL (S'.lift S2 (e1.trans u.ex)) fun σ3 Hc Hd S3 => ⟨Hc, S'.drop S3, S3.b⟩
    · have : i = ds.length := by omega
      subst this
      exact .inl ⟨(jo _ Hb Ha e1 S1.ex).2 rfl, C _ Hb Ha S1⟩)

/-! ### comprehensions -/
theorem St.reslot {K : PySem.W.Frag} {β : Bs} {σ σ' : L2.St} {H H1 : Hp} {env : List Sd} (S : St K β σ H H1 env) (hl : σ'.length = σ.length) (h : ∀ (j : Nat) s, env[j]? = some s → s = .u ∨ σ'[j]? = σ[j]?) : St K β σ' H H1 env := by
  have own : ∀ j p, OwnAt σ' env j p → OwnAt σ env j p := fun j p ⟨w1, a, φ, w2⟩ => by
    rcases h j _ w2 with z | z
    · exact nomatch z
    · exact ⟨by rw [← z]; exact w1, a, φ, w2⟩
  refine { env := ⟨hl.trans S.env.len, fun i s hs => ?_, fun i j p x y => S.env.inj i j p (own i p x) (own j p y)⟩, ex := S.ex, b := S.b, there := S.there, keep := S.keep, off := S.off, own := fun i p w => S.own i p (own i p w), loc := fun i p φ w1 w2 => ?_ }
  · rcases h i s hs with z | z
    · subst z
      have : i < σ'.length := by rw [hl, S.env.len]; exact (List.getElem?_eq_some_iff.mp hs).1
      exact ⟨σ'[i], List.getElem?_eq_getElem this, trivial⟩
    · rw [z]; exact S.env.at_ i s hs
  · rcases h i _ w2 with z | z
    · exact nomatch z
    · exact S.loc i p φ (by rw [← z]; exact w1) w2
theorem St.touch {K : PySem.W.Frag} {β : Bs} {σ : L2.St} {H H1 : Hp} {env : List Sd} {D : Addr} {o : HO} (S : St K β σ H H1 env) (hb : β.B1 D = none) (hn : ∀ j, ¬ OwnAt σ env j D) (h0 : H D = none) : St K β σ H (upd H1 D o) env where
  env := S.env.up (Ex.refl H) fun i p o' w w0 w1 => ⟨w0, by rw [upd_ne (show p ≠ D from fun z => hn i (z ▸ w))]; exact w1⟩
  ex a v h := by rw [upd_ne (ne_of_none h h0)]; exact S.ex a v h
  b := S.b
  there a h := by
    by_cases q : a = D
    · subst q; rw [upd_same]; exact fun z => nomatch z
    · rw [upd_ne q]; exact S.there a h
  keep a v n h := by
    have q : a ≠ D := ne_of_none h hb
    rw [upd_ne q]; exact S.keep a v n h
  off := S.off
  own := S.own
  loc := S.loc
theorem wipe_in {σ : L2.St} {j : Nat} : ∀ {us : List Nat}, j ∈ us → (wipe σ us)[j]? = if j < σ.length then some none else none
  | u :: us, hj => by
    show ((wipe σ us).set u none)[j]? = _
    by_cases eu : u = j
    · subst eu
      rcases Nat.lt_or_ge u σ.length with z | z
      · rw [List.getElem?_set_self (by rw [wipe_length]; exact z), if_pos z]
      · rw [List.getElem?_eq_none (by rw [List.length_set, wipe_length]; exact z), if_neg (by omega)]
    · rw [List.getElem?_set_ne eu]
      exact wipe_in (by rcases List.mem_cons.mp hj with z | z; exact absurd z.symm eu; exact z)
theorem wipe_same {σ2 σ3 : L2.St} {ws : List Nat} (hl : σ2.length = σ3.length) (hk : ∀ j, j ∉ ws → σ2[j]? = σ3[j]?) : wipe σ2 ws = wipe σ3 ws := by
  refine List.ext_getElem? fun j => ?_
  by_cases m : j ∈ ws
  · rw [wipe_in m, wipe_in m, hl]
  · rw [wipe_out m, wipe_out m, hk j m]
abbrev Xb (X : Cx) (scope : Scope) (s : Shared) (H : Hp) (C : Addr) (cl : List (Str × Addr)) (fp : List Addr) : Cx := X.blk s H scope (compEnvC scope cl C X.env) fp
def teB (X : Cx) (scope : Scope) (e : Expr) : TE := fun σ H Q => ∀ s H0 C cl fp, teW (Xb X scope s H0 C cl fp) e σ H Q
def tgB (X : Cx) (scope : Scope) (e : Expr) : TG := fun v σ H Q => ∀ s H0 C cl fp, tgW (Xb X scope s H0 C cl fp) e v σ H Q
def tpB (X : Cx) (scope : Scope) (e : List Expr) : TT := fun σ H Q => ∀ s H0 C cl fp, tpW (Xb X scope s H0 C cl fp) e σ H Q
/-- a turn of a comprehension: the test fails, or the item y is made -/
def LcTurn (X : Cx) (scope : Scope) (tg elt : Expr) (ifs : List Expr) (vs : List Nat) (d : PyData) (env env' : List Sd) (y : Option PyData) : Prop :=
  ∃ e1, (∀ s H C cl fp, Tg (Xb X scope s H C cl fp) tg vs d env e1) ∧
    match y with
    | some y => ∃ e2 e3, (∀ s H C cl fp, Ep (Xb X scope s H C cl fp) ifs e1 e2 true) ∧ (∀ s H C cl fp, Ev (Xb X scope s H C cl fp) elt e2 e3 (.d y)) ∧ Wk e3 env'
    | none => ∃ e2, (∀ s H C cl fp, Ep (Xb X scope s H C cl fp) ifs e1 e2 false) ∧ Wk e2 env'
theorem lc_read {elt iter : Expr} {ifs : List Expr} {scope : Scope} {vs : List Nat} {envs : Nat → List Sd} {outs : Nat → List PyData} {β : Bs} {σ : L2.St} {H H1 : Hp} {Q : VK} (S : St X.K β σ H H1 env)
    (hi : Ei X tg iter env env1 ds) (h0 : Wk env1 (envs 0)) (hu : ∀ i j s, j ∈ vs → (envs i)[j]? = some s → s = .u) (ho : outs 0 = []) (hl : ds.length ≤ 100000)
    (ht : ∀ i d, ds[i]? = some d → ∃ y, LcTurn X scope tg elt ifs vs d (envs i) (envs (i + 1)) y ∧ outs (i + 1) = match y with | some y => outs i ++ [y] | none => outs i)
    (q : ∀ v H' H2, St X.K β σ H' H2 (envs ds.length) → Ex H H' → ResOk X.K β σ (envs ds.length) H' H2 v (.o none (Lf X.K (outs ds.length))) → Q v H2) :
    tLc (tiW X tg iter) (tgB X scope tg) (tpB X scope ifs) (teB X scope elt) vs σ H1 Q := by
  have hlen : ∀ i, i ≤ ds.length → (outs i).length ≤ i := by
    intro i
    induction i with
    | zero => intro _; rw [ho]; exact Nat.le_refl 0
    | succ i ih =>
      intro h
      obtain ⟨y, _, e⟩ := ht i _ (List.getElem?_eq_getElem (by omega))
      rw [e]
      have := ih (by omega)
      cases y with
      | none => exact Nat.le_succ_of_le this
      | some y => show (outs i ++ [y]).length ≤ _; rw [List.length_append]; exact Nat.succ_le_succ this
  have wsame : ∀ (σ2 : L2.St), σ2.length = (wipe σ vs).length → (∀ j, j ∉ vs → σ2[j]? = (wipe σ vs)[j]?) → wipe σ2 vs = wipe σ vs ∧ ∀ j, j ∉ vs → σ2[j]? = σ[j]? := fun σ2 hl hk => by
    have hk2 : ∀ j, j ∉ vs → σ2[j]? = σ[j]? := fun j hj => by rw [hk j hj, wipe_out hj]
    refine ⟨?_, hk2⟩
    exact wipe_same (hl.trans (wipe_length σ vs)) hk2
  refine hi β σ H H1 _ S fun J H' H2 S' ex jo D hD => ?_
  have S0 := S'.up (Up.newM (p := D) (o := .lst []) S'.ex hD)
  have hDb : β.B1 D = none := by
    rcases none_or (H := β.B1) (a := D) with z | ⟨o, z⟩
    · exact z
    · exact absurd hD (S'.there D (some_ne z))
  have hDo : ∀ j, ¬ OwnAt σ env1 j D := fun j w => by
    obtain ⟨_, o, z⟩ := w.obj S'.env
    rw [hD] at z
    exact nomatch z
  refine ⟨fun i m Ha => ∃ Hb acc, St X.K β σ Hb Ha (envs i) ∧ Ex H' Hb ∧ i + m = ds.length ∧ (∀ j, ¬ OwnAt σ (envs i) j D) ∧ Hb D = none ∧ Ha D = some (.lst acc) ∧ DpAll X.K Hb acc (outs i), ⟨ds.length, H', [], S0.wk h0, Ex.refl H', by omega, fun j w => hDo j (w.wk h0), fresh_back S'.ex hD, upd_same, by rw [ho]; exact .nil⟩, fun i m Ha ⟨Hb, acc, S1, e1, hm, hn, hb, ha, hd⟩ => ?_⟩
  rcases Nat.lt_or_ge i ds.length with hi' | hi'
  · have hdi := List.getElem?_eq_getElem hi'
    obtain ⟨g, y⟩ := (jo i Hb Ha e1 S1.ex).1 _ hdi
    obtain ⟨yo, ⟨ev1, t1, turn⟩, eo⟩ := ht i _ hdi
    refine .inr ⟨g, fun Ha' => ∃ Hb' acc', St X.K β σ Hb' Ha' (envs (i + 1)) ∧ Ex H' Hb' ∧ (∀ j, ¬ OwnAt σ (envs (i + 1)) j D) ∧ Hb' D = none ∧ Ha' D = some (.lst acc') ∧ DpAll X.K Hb' acc' (outs (i + 1)),
      fun Ha' ⟨Hb', acc', z1, z2, z3, z4, z5, z6⟩ => ⟨m - 1, by omega, Hb', acc', z1, z2, by omega, z3, z4, z5, z6⟩, fun x Ha' hy => ?_⟩
    obtain ⟨Hb', u, p⟩ := y x Ha' hy
    have S2 := S1.up u
    have S3 : St X.K β (wipe σ vs) Hb' Ha' (envs i) := S2.reslot (wipe_length σ vs) fun j s hs => by
      by_cases m : j ∈ vs
      · exact .inl (hu i j s m hs)
      · exact .inr (wipe_out m)
    have hb' : Hb' D = none := u.off hb (some_ne ha)
    have ha' : Ha' D = some (.lst acc) := u.at ha
    have hn' : ∀ j, ¬ OwnAt (wipe σ vs) (envs i) j D := fun j ⟨w1, a, φ, w2⟩ => by
      by_cases m : j ∈ vs
      · exact nomatch hu i j _ m w2
      · rw [wipe_out m] at w1; exact hn j ⟨w1, a, φ, w2⟩
    -- what holds behind
    have fin : ∀ (σ2 : L2.St) (e3 : List Sd) (Hc Hd : Hp), σ2.length = (wipe σ vs).length → (∀ j, j ∉ vs → σ2[j]? = (wipe σ vs)[j]?) → St X.K (Bs.of (wipe σ vs) Hb' Ha' (envs i)) σ2 Hc Hd e3 → Wk e3 (envs (i + 1)) →
        St X.K β σ Hc Hd (envs (i + 1)) ∧ (∀ j, ¬ OwnAt σ (envs (i + 1)) j D) ∧ Hc D = none ∧ Hd D = some (.lst acc) ∧ Ex Hb' Hc := fun σ2 e3 Hc Hd hl hk T w => by
      have T2 : St X.K (Bs.of (wipe σ vs) Hb' Ha' (envs i)) σ Hc Hd (envs (i + 1)) := (T.wk w).reslot ((wipe_length σ vs).symm.trans hl.symm) fun j s hs => by
        by_cases m : j ∈ vs
        · exact .inl (hu _ j s m hs)
        · exact .inr ((wsame σ2 hl hk).2 j m).symm
      refine ⟨S3.back T2, fun j w' => ?_, T2.off D hb' (some_ne ha'), T2.keep D _ (fun ⟨k, w'⟩ => hn' k w') ha', T2.b⟩
      rcases T2.own j D w' with ⟨k, z⟩ | z
      · exact hn' k z
      · exact nomatch ha'.symm.trans z
    intro s0 H0 C0 cl0 fp0
    refine t1 s0 H0 C0 cl0 fp0 (Bs.of (wipe σ vs) Hb' Ha' (envs i)) (wipe σ vs) Hb' Ha' x _ S3.self p fun σ2 T1 hl2 hk2 => ⟨(wsame σ2 hl2 hk2).1, fun s1 H1 C1 cl1 fp1 => ?_⟩
    cases yo with
    | none =>
      obtain ⟨e2, p2, w2⟩ := turn
      refine p2 s1 H1 C1 cl1 fp1 _ σ2 Hb' Ha' _ T1 fun Hc Hd T2 => iteF ?_
      obtain ⟨z1, z2, z3, z4, z5⟩ := fin σ2 e2 Hc Hd hl2 hk2 T2 w2
      exact ⟨Hc, acc, z1, e1.trans (u.ex.trans z5), z2, z3, z4, by rw [eo]; exact dpa_ex (u.ex.trans z5) hd⟩
    | some yv =>
      obtain ⟨e2, e3, p2, v3, w3⟩ := turn
      refine p2 s1 H1 C1 cl1 fp1 _ σ2 Hb' Ha' _ T1 fun Hc Hd T2 => iteT fun s2 H2 C2 cl2 fp2 => ?_
      refine v3 s2 H2 C2 cl2 fp2 _ σ2 Hc Hd _ T2 fun v He Hf T3 ex3 R3 => ?_
      obtain ⟨z1, z2, z3, z4, z5⟩ := fin σ2 e3 He Hf hl2 hk2 T3 w3
      have hacc : acc.length = (outs i).length := hd.len
      refine ⟨acc, z4, ?_, He, acc ++ [v], z1.touch hDb z2 z3, e1.trans (u.ex.trans z5), z2, z3, upd_same, ?_⟩
      · have := hlen i (by omega)
        rw [hacc]
        exact Nat.lt_of_lt_of_le (by omega) (sz_of (n := 100000) (Nat.le_refl _))
      · rw [eo]; exact (dpa_ex (u.ex.trans z5) hd).app (.cons R3.d .nil)
  · have : i = ds.length := by omega
    subst this
    exact .inl ⟨(jo _ Hb Ha e1 S1.ex).2 rfl, q _ Hb Ha S1 (ex.trans e1) ⟨⟨D, _, rfl, (fun _ z => by cases z), hb, ha, fun Hx exx => ⟨acc, rfl, dpa_ex exx hd⟩⟩, fun a φ e p ep => by cases ep; exact ⟨hDb, hn⟩⟩⟩
theorem ep_nil : Ep X [] env env true := fun β σ H H1 Q S q => tpW.of pts_nil (q H H1 S)
theorem ep_one {c : Expr} {bb : Bool} (h : Et X c env env' bb) : Ep X [c] env env' bb := fun β σ H H1 Q S q => tpW.of (pts_one ptW) (h β σ H H1 Q S q)
/-- [elt for tg in iter if ..] -/
theorem ev_lc {elt iter : Expr} {ifs : List Expr} {scope : Scope} (own : List (Str × Nat)) (envs : Nat → List Sd) (outs : Nat → List PyData) (hN : X.N.Nodup)
    (hi : Ei X tg iter env env1 ds) (ok : BlkOk X.N X.env.scope scope own) (h0 : Wk env1 (envs 0)) (hu : ∀ i j s, j ∈ own.map (·.2) → (envs i)[j]? = some s → s = .u) (ho : outs 0 = []) (hl : ds.length ≤ 100000)
    (ht : ∀ i d, ds[i]? = some d → ∃ y, LcTurn X scope tg elt ifs (own.map (·.2)) d (envs i) (envs (i + 1)) y ∧ outs (i + 1) = match y with | some y => outs i ++ [y] | none => outs i)
    (hc : X.calm = true := by rfl) (hs : ∀ x, foldedSetIterable iter X.env x = pure x := by intro _; rfl) :
    Ev X (.ListComp elt [⟨tg, iter, ifs, 0⟩] scope pos) env (envs ds.length) (.o none (Lf X.K (outs ds.length))) := fun β σ H H1 Q S q =>
  teW.of (pe_lc hc hN piW ok (fun s H C cl fp => ⟨fun pins s' σ H' v u Q I r h => (h s H C cl fp).run pins s' u I r⟩) (fun s H C cl fp => ⟨fun pins s' σ H' Q I h => (h s H C cl fp).run pins s' I⟩) (fun s H C cl fp => ⟨fun pins s' σ H' Q I h => (h s H C cl fp).run pins s' I⟩) hs)
    (lc_read S hi h0 hu ho hl ht q)
/-- name = [..], the name a local -/
theorem r1_setLc {elt iter : Expr} {ifs : List Expr} {scope : Scope} {y : Str} {py spos : Pos} (i : Nat) (own : List (Str × Nat)) (envs : Nat → List Sd) (outs : Nat → List PyData) (hN : X.N.Nodup)
    (hi : Ei X tg iter env env1 ds) (ok : BlkOk X.N X.env.scope scope own) (h0 : Wk env1 (envs 0)) (hu : ∀ i j s, j ∈ own.map (·.2) → (envs i)[j]? = some s → s = .u) (ho : outs 0 = []) (hl : ds.length ≤ 100000)
    (ht : ∀ i d, ds[i]? = some d → ∃ y, LcTurn X scope tg elt ifs (own.map (·.2)) d (envs i) (envs (i + 1)) y ∧ outs (i + 1) = match y with | some y => outs i ++ [y] | none => outs i)
    (hli : i < (envs ds.length).length)
    (hsw : swapsWith (.ListComp elt [⟨tg, iter, ifs, 0⟩] scope pos) (some (.Name y py)) spos.line X.env = pure true)
    (hy : X.N[i]? = some y := by rfl) (hyl : X.env.scope.names.lookup y = some .local := by rfl) (hc : X.calm = true := by rfl) (hs : ∀ x, foldedSetIterable iter X.env x = pure x := by intro _; rfl) :
    R1 X (.Assign [.Name y py] (.ListComp elt [⟨tg, iter, ifs, 0⟩] scope pos) spos) env (.nx ((envs ds.length).set i (.o none (Lf X.K (outs ds.length))))) := fun β σ H H1 D hL S C =>
  tsW.of (ps_setLc hc hN hy hyl hsw piW ok (fun s H C cl fp => ⟨fun pins s' σ H' v u Q I r h => (h s H C cl fp).run pins s' u I r⟩) (fun s H C cl fp => ⟨fun pins s' σ H' Q I h => (h s H C cl fp).run pins s' I⟩) (fun s H C cl fp => ⟨fun pins s' σ H' Q I h => (h s H C cl fp).run pins s' I⟩) hs)
    (lc_read S hi h0 hu ho hl ht fun v H' H2 S' ex R => C _ H' H2 (S'.set R hli))
theorem Wk.drop : ∀ {E : List Sd} {i : Nat} {s : Sd}, E[i]? = some .u → Wk (E.set i s) E
  | a :: E, 0, s, h => by
    have : a = .u := Option.some.inj h
    subst this
    exact Wk.refl (a := E)
  | a :: E, i + 1, s, h => by
    have := Wk.drop (E := E) (i := i) (s := s) (by simpa using h)
    show Wk (a :: E.set i s) (a :: E)
    cases a with
    | u => exact this
    | d _ => exact ⟨rfl, this⟩
    | c _ => exact ⟨rfl, this⟩
    | o _ _ => exact ⟨rfl, this⟩
  | [], _, _, h => by simp at h
def outsF (ds : List PyData) (g : PyData → Option PyData) (i : Nat) : List PyData := (ds.take i).filterMap g
theorem outsF_succ {ds : List PyData} {g : PyData → Option PyData} {i : Nat} {d : PyData} (h : ds[i]? = some d) : outsF ds g (i + 1) = match g d with | some y => outsF ds g i ++ [y] | none => outsF ds g i := by
  unfold outsF
  rw [List.take_add_one, h]
  cases e : g d with
  | none => simp [e]
  | some y => simp [e]
/-- .. the slots as they stand -/
theorem ev_lcp {elt iter : Expr} {ifs : List Expr} {scope : Scope} {E : List Sd} (own : List (Str × Nat)) (g : PyData → Option PyData) (hN : X.N.Nodup)
    (hi : Ei X tg iter env E ds) (ok : BlkOk X.N X.env.scope scope own) (hu : ∀ j s, j ∈ own.map (·.2) → E[j]? = some s → s = .u) (hl : ds.length ≤ 100000)
    (ht : ∀ d, d ∈ ds → LcTurn X scope tg elt ifs (own.map (·.2)) d E E (g d))
    (hc : X.calm = true := by rfl) (hs : ∀ x, foldedSetIterable iter X.env x = pure x := by intro _; rfl) :
    Ev X (.ListComp elt [⟨tg, iter, ifs, 0⟩] scope pos) env E (.o none (Lf X.K (ds.filterMap g))) := by
  have := ev_lc (pos := pos) own (fun _ => E) (outsF ds g) hN hi ok Wk.refl (fun _ => hu) (by unfold outsF; rfl) hl (fun i d h => ⟨g d, ht d (List.mem_of_getElem? h), outsF_succ h⟩) hc hs
  unfold outsF at this
  rw [List.take_length] at this
  exact this
theorem r1_setLcp {elt iter : Expr} {ifs : List Expr} {scope : Scope} {y : Str} {py spos : Pos} {E : List Sd} (i : Nat) (own : List (Str × Nat)) (g : PyData → Option PyData) (hN : X.N.Nodup)
    (hi : Ei X tg iter env E ds) (ok : BlkOk X.N X.env.scope scope own) (hu : ∀ j s, j ∈ own.map (·.2) → E[j]? = some s → s = .u) (hl : ds.length ≤ 100000)
    (ht : ∀ d, d ∈ ds → LcTurn X scope tg elt ifs (own.map (·.2)) d E E (g d)) (hli : i < E.length)
    (hsw : swapsWith (.ListComp elt [⟨tg, iter, ifs, 0⟩] scope pos) (some (.Name y py)) spos.line X.env = pure true)
    (hy : X.N[i]? = some y := by rfl) (hyl : X.env.scope.names.lookup y = some .local := by rfl) (hc : X.calm = true := by rfl) (hs : ∀ x, foldedSetIterable iter X.env x = pure x := by intro _; rfl) :
    R1 X (.Assign [.Name y py] (.ListComp elt [⟨tg, iter, ifs, 0⟩] scope pos) spos) env (.nx (E.set i (.o none (Lf X.K (ds.filterMap g))))) := by
  have := r1_setLc (pos := pos) (spos := spos) (py := py) i own (fun _ => E) (outsF ds g) hN hi ok Wk.refl (fun _ => hu) (by unfold outsF; rfl) hl (fun i d h => ⟨g d, ht d (List.mem_of_getElem? h), outsF_succ h⟩) hli hsw hy hyl hc hs
  unfold outsF at this
  rw [List.take_length] at this
  exact this
/-- a turn whose target is one name, that leaves all else -/
theorem lct_one {scope : Scope} {elt : Expr} {x : Str} {px : Pos} {E : List Sd} {y : PyData} (j : Nat) (hE : E[j]? = some .u) (h0 : ∀ s H C cl fp, Tg (Xb X scope s H C cl fp) (.Name x px) [j] d E (E.set j (.d d)))
    (h : ∀ s H C cl fp, Ev (Xb X scope s H C cl fp) elt (E.set j (.d d)) (E.set j (.d d)) (.d y)) : LcTurn X scope (.Name x px) elt [] [j] d E E (some y) :=
  ⟨E.set j (.d d), h0, _, _, fun _ _ _ _ _ => ep_nil, h, Wk.drop hE⟩
theorem lct_if {scope : Scope} {elt c : Expr} {x : Str} {px : Pos} {E : List Sd} {y : PyData} {bb : Bool} (j : Nat) (hE : E[j]? = some .u) (h0 : ∀ s H C cl fp, Tg (Xb X scope s H C cl fp) (.Name x px) [j] d E (E.set j (.d d)))
    (ht : ∀ s H C cl fp, Et (Xb X scope s H C cl fp) c (E.set j (.d d)) (E.set j (.d d)) bb)
    (h : bb = true → ∀ s H C cl fp, Ev (Xb X scope s H C cl fp) elt (E.set j (.d d)) (E.set j (.d d)) (.d y)) : LcTurn X scope (.Name x px) elt [c] [j] d E E (if bb = true then some y else none) := by
  refine ⟨E.set j (.d d), h0, ?_⟩
  cases bb with
  | true => exact ⟨_, _, fun s H C cl fp => ep_one (ht s H C cl fp), h rfl, Wk.drop hE⟩
  | false => exact ⟨_, fun s H C cl fp => ep_one (ht s H C cl fp), Wk.drop hE⟩

/-! ### while -/
/-- the turns: from envs i (i < n) the test is true and the body goes to envs (i + 1); at envs n it is false -/
theorem r1_while {c : Expr} (n : Nat) (envs : Nat → List Sd) (hp : PassesOwn (model X.prog X.w) X.A X.env X.xe) (h0 : Wk env (envs 0))
    (ht : ∀ i, i < n → Et X c (envs i) (envs i) true ∧ Rn X body (envs i) (.nx (envs (i + 1)))) (hd : Et X c (envs n) (envs n) false) : R1 X (.While c body [] pos) env (.nx (envs n)) := fun β σ H H1 D hL S C =>
  tsW.of (ps_while hp ptW pssW) (by
    refine ⟨fun m σ1 Ha => ∃ Hb i, St X.K β σ1 Hb Ha (envs i) ∧ i + m = n, ⟨n, H, 0, S.wk h0, by omega⟩, fun m σ1 Ha ⟨Hb, i, S1, hm⟩ => ?_⟩
    rcases Nat.lt_or_ge i n with hi' | hi'
    · obtain ⟨t1, b1⟩ := ht i hi'
      exact t1 β σ1 Hb Ha _ S1 fun Hc Hd S2 => iteT ⟨fun σ' Ha' => ∃ Hb', St X.K β σ' Hb' Ha' (envs (i + 1)), fun σ' Ha' ⟨Hb', S3⟩ => ⟨m - 1, by omega, Hb', i + 1, S3, by omega⟩, b1 β σ1 Hc Hd _ hL S2 fun σ3 He Hf S3 => ⟨He, S3⟩⟩
    · have : i = n := by omega
      subst this
      exact hd β σ1 Hb Ha _ S1 fun Hc Hd S2 => iteF (C σ1 Hc Hd S2))

/-! ### promises -/
def addr : List V → List Sd → List Sd
  | .ref p :: vs, .o _ φ :: as => .o (some p) φ :: addr vs as
  | _ :: vs, a :: as => a :: addr vs as
  | [], as => as
  | _, [] => []
abbrev BsA (H H1 : Hp) (vs : List V) (as : List Sd) : Bs := ⟨H, H1, fun a => ∃ i, OwnAt (vs.map some) (addr vs as) i a, fun _ => False⟩
def Rel := List Sd → List Sd → Sd → Prop
/-- a def's promise by a relation of the arguments ahead, the arguments behind, the answer -/
def spD (K : PySem.W.Frag) (R : Rel) : Sp := fun vs H1 Q _ => ∃ H as as' r, St K (BsA H H1 vs as) (vs.map some) H H1 (addr vs as) ∧ vs.length = as.length ∧ R as as' r ∧
  ∀ v H' H2, St K (BsA H H1 vs as) (vs.map some) H' H2 (addr vs as') → ResOk K (BsA H H1 vs as) (vs.map some) (addr vs as') H' H2 v r → Q v H2
end
end Ol
set_option Elab.async false
set_option linter.all false
set_option maxRecDepth 100000
set_option maxHeartbeats 2000000
/-! OlCall: a def's promise kept by its body; a call by its promise. -/
namespace Ol
open PySem L2
open Evl (Ex Ex.refl Ex.trans Ex.new ex_l ex_t fresh_back sz_of sz_lt)
theorem addr_get : ∀ {vs : List V} {as : List Sd} {i : Nat} {v : V} {s : Sd}, vs[i]? = some v → as[i]? = some s → (addr vs as)[i]? = some (match v, s with | .ref p, .o _ φ => .o (some p) φ | _, s => s)
  | [], _, _, _, _, h, _ => by simp at h
  | _ :: _, [], _, _, _, _, h => by simp at h
  | w :: vs, a :: as, 0, v, s, h1, h2 => by
    have e1 : w = v := Option.some.inj h1
    have e2 : a = s := Option.some.inj h2
    subst e1 e2
    cases w <;> cases a <;> rfl
  | w :: vs, a :: as, i + 1, v, s, h1, h2 => by
    have ih := addr_get (vs := vs) (as := as) (i := i) (v := v) (s := s) (by simpa using h1) (by simpa using h2)
    cases w <;> cases a <;> exact ih
theorem addr_len : ∀ {vs : List V} {as : List Sd}, vs.length = as.length → (addr vs as).length = as.length
  | [], _, _ => rfl
  | _ :: _, [], h => by simp at h
  | w :: vs, a :: as, h => by
    have ih := addr_len (vs := vs) (as := as) (by simpa using h)
    cases w <;> cases a <;> exact congrArg (· + 1) ih
theorem addr_none {vs : List V} {as : List Sd} {i : Nat} {p : Addr} {φ : HO → Hp → Prop} (h1 : (vs.map some)[i]? = some (some (.ref p))) (h2 : (addr vs as)[i]? = some (.o none φ)) (hl : vs.length = as.length) : False := by
  rw [List.getElem?_map] at h1
  cases e : vs[i]? with
  | none => rw [e] at h1; cases h1
  | some v =>
    rw [e] at h1
    cases h1
    have hi : i < as.length := by rw [← hl]; exact (List.getElem?_eq_some_iff.mp e).1
    rw [addr_get e (List.getElem?_eq_getElem hi)] at h2
    cases q : as[i] with
    | o a ψ => rw [q] at h2; cases h2
    | u => rw [q] at h2; cases h2
    | d _ => rw [q] at h2; cases h2
    | c _ => rw [q] at h2; cases h2
/-- what is said of the arguments behind: nothing, or an object of ours again -/
def Back (as as' : List Sd) : Prop := as'.length = as.length ∧ ∀ (i : Nat) s, as'[i]? = some s → s = .u ∨ ∃ φ' a φ, s = .o none φ' ∧ as[i]? = some (.o a φ)
section
variable {K : PySem.W.Frag} {β : Bs} {σ : L2.St} {H H1 : Hp} {env : List Sd}
theorem St.ext (n : Nat) (S : St K β σ H H1 env) : St K β (σ ++ List.replicate n none) H H1 (env ++ List.replicate n .u) := by
  have hl := S.env.len
  have small : ∀ (i : Nat) s, (env ++ List.replicate n Sd.u)[i]? = some s → s = .u ∨ (i < env.length ∧ env[i]? = some s) := fun i s h => by
    rcases Nat.lt_or_ge i env.length with z | z
    · rw [List.getElem?_append_left z] at h; exact .inr ⟨z, h⟩
    · rw [List.getElem?_append_right z, List.getElem?_replicate] at h
      split at h
      · cases h; exact .inl rfl
      · cases h
  have own : ∀ i p, OwnAt (σ ++ List.replicate n none) (env ++ List.replicate n .u) i p → OwnAt σ env i p := fun i p ⟨w1, a, φ, w2⟩ => by
    rcases small i _ w2 with z | ⟨z1, z2⟩
    · exact nomatch z
    · rw [List.getElem?_append_left (by rw [hl]; exact z1)] at w1
      exact ⟨w1, a, φ, z2⟩
  refine { env := ⟨by simp [hl], fun i s h => ?_, fun i j p x y => S.env.inj i j p (own i p x) (own j p y)⟩, ex := S.ex, b := S.b, there := S.there, keep := S.keep, off := S.off, own := fun i p w => S.own i p (own i p w), loc := fun i p φ w1 w2 => ?_ }
  · rcases small i s h with z | ⟨z1, z2⟩
    · subst z
      have : i < (σ ++ List.replicate n none).length := by have := (List.getElem?_eq_some_iff.mp h).1; simp [hl] at this ⊢; exact this
      exact ⟨_, List.getElem?_eq_getElem this, trivial⟩
    · obtain ⟨x, hx, ok⟩ := S.env.at_ i s z2
      exact ⟨x, by rw [List.getElem?_append_left (by rw [hl]; exact z1)]; exact hx, ok⟩
  · rcases small i _ w2 with z | ⟨z1, z2⟩
    · exact nomatch z
    · rw [List.getElem?_append_left (by rw [hl]; exact z1)] at w1
      exact S.loc i p φ w1 z2
end
section
variable {P : Program} {w : World} {K : PySem.W.Frag} {mg : Str → Option Value} {base : Heap}
theorem fn_ok {x qual : Str} {st : Stmt} {f : Addr} {fd : FuncData} {N ps : List Str} {k : Nat} {R : Rel} (F : Fun K x qual st f fd) (S : FnScope N ps (defScope st)) (hlen : ∀ as as' r, R as as' r → as.length = ps.length ∧ Back as as')
    (hb : ∀ (cdv : Value) (A : Around) (outer : List Env) (s : Shared) (H : Hp) (E : XK), Room k (A.deeper (PyProof.Rows.envOfC qual (defScope st) s.heap.objs.size f cdv)) → ∀ (vs : List V) as as' r, R as as' r → vs.length = as.length → (∀ (i : Nat) (a : Option Addr) (φ : HO → Hp → Prop), as[i]? = some (.o a φ) → ∃ p, vs[i]? = some (V.ref p)) →
      ∃ env', ((Rn (cxOf CX0 P w K mg base N qual (defScope st) f cdv A outer s H E).nox (defBody st) (addr vs as ++ List.replicate (N.length - vs.length) .u) (.rt env' r)) ∨
        (r = .d .none ∧ Rn (cxOf CX0 P w K mg base N qual (defScope st) f cdv A outer s H E).nox (defBody st) (addr vs as ++ List.replicate (N.length - vs.length) .u) (.nx env'))) ∧ Wk env' (addr vs as' ++ List.replicate (N.length - vs.length) .u)) : FnOk P w K mg base CX0 (k + 1) f fd ps (spD K R) := by
  refine F.ok S (fun vs H Q E h => ?_) (fun cdv A outer s H vs Q E hr h => ?_)
  · obtain ⟨H, as, as', r, _, hl, hR, _⟩ := h
    exact hl.trans (hlen _ _ _ hR).1
  · obtain ⟨H0, as, as', r, S0, hl, hR, q⟩ := h
    obtain ⟨hps, hbl, hbk⟩ := hlen _ _ _ hR
    have hO : ∀ (i : Nat) (a : Option Addr) (φ : HO → Hp → Prop), as[i]? = some (.o a φ) → ∃ p, vs[i]? = some (V.ref p) := fun i a φ h => by
      have hi : i < vs.length := by rw [hl]; exact (List.getElem?_eq_some_iff.mp h).1
      have hv := List.getElem?_eq_getElem hi
      have ha := addr_get hv h
      cases e : vs[i] with
      | ref p => exact ⟨p, by rw [hv, e]⟩
      | _ =>
        rw [e] at ha
        obtain ⟨y, hy, p, o, ey, _⟩ := S0.env.at_ i _ ha
        rw [List.getElem?_map, hv, e] at hy
        cases hy
        cases ey
    obtain ⟨env', body, wk⟩ := hb cdv A outer s H E hr vs as as' r hR hl hO
    have S1 := S0.ext (N.length - vs.length)
    have fin : ∀ (σ' : L2.St) (v : V) (H' H2 : Hp), St K (BsA H0 H vs as) σ' H' H2 env' → ResOk K (BsA H0 H vs as) σ' env' H' H2 v r → Q v H2 := fun σ' v H' H2 T R' => by
      have T1 := T.wk wk
      have hlv : vs.length = as'.length := hl.trans hbl.symm
      have at_ : ∀ (i : Nat) s, (addr vs as')[i]? = some s → s = .u ∨ ∃ p φ', s = .o (some p) φ' ∧ vs[i]? = some (.ref p) := fun i s h => by
        have hi : i < as'.length := by have := (List.getElem?_eq_some_iff.mp h).1; rw [addr_len hlv] at this; exact this
        have ha := List.getElem?_eq_getElem hi
        have hv := List.getElem?_eq_getElem (show i < vs.length by rw [hlv]; exact hi)
        rw [addr_get hv ha] at h
        rcases hbk i _ ha with z | ⟨φ', a, φ, z1, z2⟩
        · rw [z] at h
          cases e : vs[i] with
          | ref p => rw [e] at h; cases h; exact .inl rfl
          | _ => rw [e] at h; cases h; exact .inl rfl
        · obtain ⟨p, hp⟩ := hO i a φ z2
          rw [hv] at hp
          rw [z1, Option.some.inj hp] at h
          cases h
          exact .inr ⟨p, φ', rfl, by rw [hv]; exact hp⟩
      have own : ∀ i p, OwnAt (vs.map some) (addr vs as') i p → OwnAt σ' (addr vs as' ++ List.replicate (N.length - vs.length) .u) i p := fun i p ⟨w1, a, φ, w2⟩ => by
        rcases at_ i _ w2 with z | ⟨p', φ', z1, z2⟩
        · exact nomatch z
        · cases z1
          rw [List.getElem?_map, z2] at w1
          cases w1
          have hi := (List.getElem?_eq_some_iff.mp w2).1
          have w3 : (addr vs as' ++ List.replicate (N.length - vs.length) Sd.u)[i]? = some (.o (some p) φ) := by rw [List.getElem?_append_left hi]; exact w2
          obtain ⟨y, hy, q, o, ey, eq, _⟩ := T1.env.at_ i _ w3
          subst ey
          rw [← eq p rfl] at hy
          exact ⟨hy, _, _, w3⟩
      have S2 : St K (BsA H0 H vs as) (vs.map some) H' H2 (addr vs as') := by
        refine { env := ⟨by rw [List.length_map, addr_len hlv]; exact hlv, fun i s h => ?_, fun i j p x y => T1.env.inj i j p (own i p x) (own j p y)⟩, ex := T1.ex, b := T1.b, there := T1.there, keep := T1.keep, off := T1.off, own := fun i p w' => T1.own i p (own i p w'), loc := fun i p φ w1 w2 => (addr_none w1 w2 hlv).elim }
        rcases at_ i s h with z | ⟨p', φ', z1, z2⟩
        · subst z
          have hi : i < vs.length := by have := (List.getElem?_eq_some_iff.mp h).1; rw [addr_len hlv] at this; rw [hlv]; exact this
          exact ⟨some vs[i], by rw [List.getElem?_map, List.getElem?_eq_getElem hi]; rfl, trivial⟩
        · subst z1
          have hi := (List.getElem?_eq_some_iff.mp h).1
          obtain ⟨y, hy, q, o, ey, eq, ok⟩ := T1.env.at_ i (.o (some p') φ') (by rw [List.getElem?_append_left hi]; exact h)
          subst ey
          exact ⟨some (.ref p'), by rw [List.getElem?_map, z2]; rfl, q, o, by rw [eq p' rfl], eq, ok⟩
      exact q v H' H2 S2 ⟨R'.ok, fun a φ e p ev => ⟨(R'.new a φ e p ev).1, fun i w' => (R'.new a φ e p ev).2 i ((own i p w').wk wk)⟩⟩
    rcases body with body | ⟨er, body⟩
    · exact ⟨_, pssW, body (BsA H0 H vs as) _ H0 H ⟨fun _ H' => Q .non H', Q, fun _ _ => False, fun _ _ => False⟩ (fun _ z => z) S1 fun σ' v H' H2 T R' => fin σ' v H' H2 T R'⟩
    · subst er
      exact ⟨_, pssW, body (BsA H0 H vs as) _ H0 H ⟨fun _ H' => Q .non H', Q, fun _ _ => False, fun _ _ => False⟩ (fun _ z => z) S1 fun σ' H' H2 T => fin σ' .non H' H2 T (.dd .non)⟩
end
section
variable {X : Cx} {env env1 env2 : List Sd} {e : Expr} {es : List Expr} {p pos : Pos} {k : Nat} {f : Addr} {fd : FuncData} {ps : List Str} {R : Rel} {x : Str} {r : Sd} {gs : List Ag}
def agS (env : List Sd) : Ag → Sd
  | .r (.o _ φ) => .o none φ
  | .r s => s
  | .b i => match env[i]? with
    | some (.o _ φ) => .o none φ
    | _ => .u
theorem call_core {as' : List Sd} (F : FnOk X.prog X.w X.K X.mg X.base CX0 k f fd ps (spD X.K R)) (hr : Room k X.A) (hm : X.mg x = some (.ref f)) (hk : PySem.W.keepIn X.K (.ref f) = true) (hb : Binds X.K fd ps []) (ha : El X (e :: es) env env1 gs) (hR : R (gs.map (agS env1)) as' r)
    (hone : ∀ (i j n : Nat), gs[i]? = some (.b n) → gs[j]? = some (.b n) → i = j) (hl2 : env2.length = env1.length)
    (h2 : ∀ (j : Nat) s, env2[j]? = some s → (env1[j]? = some s ∧ ∀ (i : Nat), gs[i]? ≠ some (.b j)) ∨ ∃ (i : Nat) (a : Option Addr) (φ φ' : HO → Hp → Prop), gs[i]? = some (.b j) ∧ env1[j]? = some (.o a φ) ∧ as'[i]? = some (.o none φ') ∧ s = .o a φ')
    (hg : Gl X x) (hdb : (x == ("__debug__" : Str)) = false) (he : starEach (e :: es) X.env = (false, eval e X.env) :: starEach es X.env) (hpl : (backTo pos (starEach es X.env)).any (·.1) = false) : Ev X (.Call (.Name x p) (e :: es) [] pos) env env2 r := fun β σ H H1 Q S q =>
  teW.of (pe_call F hr hg hm hk hb .nil pass0 paW hdb he hpl) (ha β σ H H1 _ S fun vs H' H2 S' ex G => by
    have hl : vs.length = (gs.map (agS env1)).length := by rw [List.length_map]; exact G.len
    -- what the callee's own arguments are
    have ownA : ∀ i p, OwnAt (vs.map some) (addr vs (gs.map (agS env1))) i p → vs[i]? = some (.ref p) ∧ ((∃ a φ, gs[i]? = some (.r (.o a φ))) ∨ ∃ j a φ, gs[i]? = some (.b j) ∧ env1[j]? = some (.o a φ) ∧ OwnAt σ env1 j p) := fun i p ⟨w1, a, φ, w2⟩ => by
      rw [List.getElem?_map] at w1
      cases hv : vs[i]? with
      | none => rw [hv] at w1; cases w1
      | some v =>
        rw [hv] at w1
        have ev : v = .ref p := Option.some.inj (Option.some.inj w1)
        subst ev
        have hi : i < gs.length := by rw [← G.len]; exact (List.getElem?_eq_some_iff.mp hv).1
        have hgi := List.getElem?_eq_getElem hi
        have hmi : (gs.map (agS env1))[i]? = some (agS env1 gs[i]) := by rw [List.getElem?_map, hgi]; rfl
        rw [addr_get hv hmi] at w2
        refine ⟨rfl, ?_⟩
        have ok := G.at_ i _ _ hv hgi
        cases eg : gs[i] with
        | r s =>
          rw [eg] at w2
          cases s with
          | o b ψ => exact .inl ⟨b, ψ, by rw [hgi, eg]⟩
          | u => cases w2
          | d _ => cases w2
          | c _ => cases w2
        | b j =>
          rw [eg] at w2 ok
          cases ej : env1[j]? with
          | none => simp only [agS, ej] at w2; cases w2
          | some s =>
            cases s with
            | o b ψ => exact .inr ⟨j, b, ψ, by rw [hgi, eg], ej, ok, b, ψ, ej⟩
            | u => simp only [agS, ej] at w2; cases w2
            | d _ => simp only [agS, ej] at w2; cases w2
            | c _ => simp only [agS, ej] at w2; cases w2
    have newA : ∀ (i : Nat) p a φ, vs[i]? = some (V.ref p) → gs[i]? = some (.r (.o a φ)) → β.B1 p = none ∧ ∀ j, ¬ OwnAt σ env1 j p := fun i p a φ hv hgi => (G.at_ i _ _ hv hgi).new a φ rfl p rfl
    have S0 : St X.K (BsA H' H2 vs (gs.map (agS env1))) (vs.map some) H' H2 (addr vs (gs.map (agS env1))) := by
      refine { env := ⟨by rw [List.length_map, addr_len hl]; exact hl, fun i s h => ?_, fun i j p x y => ?_⟩, ex := S'.ex, b := Ex.refl _, there := fun _ h => h, keep := fun _ _ _ h => h, off := fun _ h _ => h, own := fun i p w' => .inl ⟨i, w'⟩, loc := fun i p φ w1 w2 => (addr_none w1 w2 hl).elim }
      · have hi : i < (gs.map (agS env1)).length := by have := (List.getElem?_eq_some_iff.mp h).1; rw [addr_len hl] at this; exact this
        have hv := List.getElem?_eq_getElem (show i < vs.length by rw [hl]; exact hi)
        have hi2 : i < gs.length := by rw [List.length_map] at hi; exact hi
        have hgi := List.getElem?_eq_getElem hi2
        have hmi : (gs.map (agS env1))[i]? = some (agS env1 gs[i]) := by rw [List.getElem?_map, hgi]; rfl
        rw [addr_get hv hmi] at h
        refine ⟨some vs[i], by rw [List.getElem?_map, hv]; rfl, ?_⟩
        have ok := G.at_ i _ _ hv hgi
        cases eg : gs[i] with
        | r s' =>
          rw [eg] at h ok
          have ok' : ResOk X.K β σ env1 H' H2 vs[i] s' := ok
          cases s' with
          | o b ψ =>
            obtain ⟨p', o', e1, e2, h0, h1, m, _⟩ := ok'.o
            rw [e1] at h ⊢
            cases h
            exact ⟨p', o', rfl, (fun q z => (Option.some.inj z).symm), h0, h1, m⟩
          | u =>
            have : s = .u := by cases e : vs[i] <;> (rw [e] at h; exact (Option.some.inj h).symm)
            subst this; exact trivial
          | d x =>
            have : s = .d x := by cases e : vs[i] <;> (rw [e] at h; exact (Option.some.inj h).symm)
            subst this; exact ok'.ok
          | c x =>
            have : s = .c x := by cases e : vs[i] <;> (rw [e] at h; exact (Option.some.inj h).symm)
            subst this; exact ok'.ok
        | b j =>
          rw [eg] at h ok
          have ok' : σ[j]? = some (some vs[i]) := ok
          have uu : agS env1 (.b j) = .u → SlotOk X.K H' H2 (some vs[i]) s := fun z => by
            rw [z] at h
            have : s = .u := by cases e : vs[i] <;> (rw [e] at h; exact (Option.some.inj h).symm)
            subst this; exact trivial
          cases ej : env1[j]? with
          | none => exact uu (by simp only [agS, ej])
          | some s' =>
            cases s' with
            | o b ψ =>
              obtain ⟨y, hy, p', o', e1, e2, h0, h1, m⟩ := S'.env.at_ j _ ej
              rw [ok'] at hy
              have e3 : vs[i] = .ref p' := Option.some.inj ((Option.some.inj hy).trans e1)
              simp only [agS, ej] at h
              rw [e3] at h ⊢
              cases h
              exact ⟨p', o', rfl, (fun q z => (Option.some.inj z).symm), h0, h1, m⟩
            | u => exact uu (by simp only [agS, ej])
            | d _ => exact uu (by simp only [agS, ej])
            | c _ => exact uu (by simp only [agS, ej])
      · obtain ⟨v1, c1⟩ := ownA i p x
        obtain ⟨v2, c2⟩ := ownA j p y
        rcases c1 with ⟨a, φ, g1⟩ | ⟨n, a, φ, g1, e1, o1⟩
        · rcases c2 with ⟨b, ψ, g2⟩ | ⟨m, b, ψ, g2, e2, o2⟩
          · exact G.inj i j p a φ b ψ v1 v2 g1 g2
          · exact absurd o2 ((newA i p a φ v1 g1).2 m)
        · rcases c2 with ⟨b, ψ, g2⟩ | ⟨m, b, ψ, g2, e2, o2⟩
          · exact absurd o1 ((newA j p b ψ v2 g2).2 n)
          · have := S'.env.inj n m p o1 o2
            subst this
            exact hone i j n g1 g2
    show spD X.K R (vs ++ []) H2 Q E0
    rw [List.append_nil]
    refine ⟨H', gs.map (agS env1), as', r, S0, hl, hR, fun v H'' H3 T Rv => ?_⟩
    have eA : ∀ a, (BsA H' H2 vs (gs.map (agS env1))).A a → (∃ j, OwnAt σ env1 j a ∧ ∃ (i : Nat), gs[i]? = some (.b j)) ∨ (β.B1 a = none ∧ ∀ j, ¬ OwnAt σ env1 j a) := fun a ⟨i, w'⟩ => by
      obtain ⟨v1, ⟨b, φ, g1⟩ | ⟨n, b, φ, g1, e1, o1⟩⟩ := ownA i a w'
      · exact .inr (newA i a b φ v1 g1)
      · exact .inl ⟨n, o1, i, g1⟩
    have own2 : ∀ j p, OwnAt σ env2 j p → OwnAt σ env1 j p := fun j p ⟨w1, a, φ, w2⟩ => by
      rcases h2 j _ w2 with ⟨z, _⟩ | ⟨i, a', φ1, φ', z1, z2, z3, z4⟩
      · exact ⟨w1, a, φ, z⟩
      · exact ⟨w1, _, _, z2⟩
    have S2 : St X.K β σ H'' H3 env2 := by
      refine { env := ⟨by rw [hl2]; exact S'.env.len, fun j s h => ?_, fun i j p x y => S'.env.inj i j p (own2 i p x) (own2 j p y)⟩, ex := T.ex, b := S'.b.trans T.b, there := fun a h => T.there a (S'.there a h), keep := fun a o n h => T.keep a o (fun z => ?_) (S'.keep a o n h), off := fun a h h1 => T.off a (S'.off a h h1) (S'.there a h1), own := fun i p w' => S'.own i p (own2 i p w'), loc := fun i p φ w1 w2 => ?_ }
      · rcases h2 j s h with ⟨z, nb⟩ | ⟨i, a', φ1, φ', z1, z2, z3, z4⟩
        · obtain ⟨y, hy, ok⟩ := S'.env.at_ j s z
          refine ⟨y, hy, ok.up T.b fun p o ho h0 h1 ey => ?_⟩
          have oj : OwnAt σ env1 j p := by
            cases s with
            | o a φ => exact ⟨by rw [hy, ey], a, φ, z⟩
            | u => exact ho.elim
            | d _ => exact ho.elim
            | c _ => exact ho.elim
          refine ⟨T.off p h0 (some_ne h1), T.keep p o (fun w' => ?_) h1⟩
          rcases eA p w' with ⟨m, om, i, gi⟩ | ⟨_, no⟩
          · have := S'.env.inj m j p om oj
            subst this
            exact nb i gi
          · exact no j oj
        · subst z4
          obtain ⟨y, hy, p, o, ey, ea, _⟩ := S'.env.at_ j _ z2
          subst ey
          have hi : i < vs.length := by rw [G.len]; exact (List.getElem?_eq_some_iff.mp z1).1
          have hv := List.getElem?_eq_getElem hi
          have gi : σ[j]? = some (some vs[i]) := G.at_ i _ _ hv z1
          rw [hy] at gi
          have e3 : vs[i] = .ref p := (Option.some.inj (Option.some.inj gi)).symm
          have z3' := addr_get hv z3
          rw [e3] at z3'
          obtain ⟨y, hy', p', o', ey', ea', n0, n1, m⟩ := T.env.at_ i _ z3'
          rw [List.getElem?_map, hv, e3] at hy'
          cases hy'
          cases ey'
          exact ⟨_, hy, p, o', rfl, ea, n0, n1, m⟩
      · rcases eA a z with ⟨m, om, _⟩ | ⟨nb, _⟩
        · rcases S'.own m a om with z1 | z1
          · exact n z1
          · exact nomatch h.symm.trans z1
        · exact nomatch h.symm.trans nb
      · rcases h2 i _ w2 with ⟨z, _⟩ | ⟨n, a', φ1, φ', z1, z2, z3, z4⟩
        · exact S'.loc i p φ w1 z
        · cases z4
          exact S'.loc i p φ1 w1 z2
    refine q v H'' H3 S2 (ex.trans T.b) ⟨Rv.ok, fun a φ er p ev => ⟨?_, fun i w' => ?_⟩⟩
    · have n : H2 p = none := (Rv.new a φ er p ev).1
      rcases none_or (H := β.B1) (a := p) with z | ⟨o, z⟩
      · exact z
      · exact absurd n (S'.there p (some_ne z))
    · have n : H2 p = none := (Rv.new a φ er p ev).1
      obtain ⟨_, o, z⟩ := (own2 i p w').obj S'.env
      exact nomatch z.symm.trans n)
/-- f(e, ..): nothing of ours is lent -/
theorem ev_call {as' : List Sd} (F : FnOk X.prog X.w X.K X.mg X.base CX0 k f fd ps (spD X.K R)) (hr : Room k X.A) (hm : X.mg x = some (.ref f)) (hk : PySem.W.keepIn X.K (.ref f) = true) (hb : Binds X.K fd ps []) (hR : R (gs.map (agS env1)) as' r) (ha : El X (e :: es) env env1 gs)
    (hno : ∀ (i n : Nat), gs[i]? ≠ some (.b n) := by intro i n; rcases i with _ | _ | _ | _ | _ | i <;> (intro h; cases h)) (hg : Gl X x := by rfl) (hdb : (x == ("__debug__" : Str)) = false := by decide) (he : starEach (e :: es) X.env = (false, eval e X.env) :: starEach es X.env := by rfl)
    (hpl : (backTo pos (starEach es X.env)).any (·.1) = false := by rfl) : Ev X (.Call (.Name x p) (e :: es) [] pos) env env1 r :=
  call_core F hr hm hk hb ha hR (fun i j n h => absurd h (hno i n)) rfl (fun j s h => .inl ⟨h, fun i => hno i j⟩) hg hdb he hpl
/-- .. the object in slot i lent as the k0-th argument -/
theorem ev_callB {as' : List Sd} (k0 i : Nat) {a : Option Addr} {φ φ' : HO → Hp → Prop} (F : FnOk X.prog X.w X.K X.mg X.base CX0 k f fd ps (spD X.K R)) (hr : Room k X.A) (hm : X.mg x = some (.ref f)) (hk : PySem.W.keepIn X.K (.ref f) = true) (hb : Binds X.K fd ps []) (hR : R (gs.map (agS env1)) as' r)
    (ha : El X (e :: es) env env1 gs) (h1 : gs[k0]? = some (.b i) := by rfl) (h2 : env1[i]? = some (.o a φ) := by rfl) (h3 : as'[k0]? = some (.o none φ') := by rfl)
    (hone : ∀ (j n : Nat), gs[j]? = some (.b n) → j = k0 := by intro j n; rcases j with _ | _ | _ | _ | _ | j <;> (intro h; first | rfl | cases h)) (hg : Gl X x := by rfl) (hdb : (x == ("__debug__" : Str)) = false := by decide) (he : starEach (e :: es) X.env = (false, eval e X.env) :: starEach es X.env := by rfl)
    (hpl : (backTo pos (starEach es X.env)).any (·.1) = false := by rfl) : Ev X (.Call (.Name x p) (e :: es) [] pos) env (env1.set i (.o a φ')) r :=
  call_core F hr hm hk hb ha hR (fun j n m x y => by rw [hone j m x, hone n m y]) (List.length_set ..) (fun j s h => by
    have hi : i < env1.length := (List.getElem?_eq_some_iff.mp h2).1
    by_cases e' : i = j
    · subst e'
      rw [List.getElem?_set_self hi] at h
      cases h
      exact .inr ⟨k0, a, φ, φ', h1, h2, h3, rfl⟩
    · rw [List.getElem?_set_ne e'] at h
      refine .inl ⟨h, fun n z => ?_⟩
      have := hone n j z
      subst this
      rw [h1] at z
      exact e' (Ag.b.inj (Option.some.inj z))) hg hdb he hpl
end
end Ol
set_option Elab.async false
set_option linter.all false
set_option maxRecDepth 100000
set_option maxHeartbeats 2000000
/-! OlVal: operations and built-ins over data. -/
namespace Ol
open PySem L2
open Evl (Ex Ex.refl Ex.trans Ex.new ex_l ex_t fresh_back sz_of sz_lt)
section
variable {X : Cx} {K : PySem.W.Frag} {env env1 env2 env3 env' : List Sd} {e a b c : Expr} {es : List Expr} {p pos : Pos} {d d1 d2 : PyData} {r : Sd} {ds es' : List PyData} {i j : Int}
theorem sz5 {n : Nat} (h : n ≤ 100000) : n ≤ sizeLine := sz_of h
theorem sz5l {n : Nat} (h : n < 100000) : n < sizeLine := Nat.lt_of_lt_of_le h (sz_of (n := 100000) (Nat.le_refl _))
theorem dpa_atI {xs : List V} {H : Hp} (h : DpAll K H xs ds) (e : atI ds i = some d) : ∃ v, atI xs i = some v ∧ Dp K H v d := by
  unfold atI at e ⊢
  rw [h.len]
  cases q : ixN ds.length i with
  | none => rw [q] at e; cases e
  | some j =>
    rw [q] at e
    exact h.get (i := j) e
/-! ints -/
theorem rv_I0 {g : Int → Int → V} (h : ∀ H, Dp K H (g i j) d) : RvD K (rI0 g) (.int i) (.int j) (.d d) := fun H H1 x y Q e p q k => ⟨i, j, dp_int p, dp_int q, k.dd e (h H)⟩
theorem rv_I {C : Int → Int → Prop} {g : Int → Int → V} (hc : C i j) (h : ∀ H, Dp K H (g i j) d) : RvD K (rI C g) (.int i) (.int j) (.d d) := fun H H1 x y Q e p q k => ⟨i, j, dp_int p, dp_int q, hc, k.dd e (h H)⟩
section
variable (ha : Ev X a env env1 (.d (.int i))) (hb : Ev X b env1 env2 (.d (.int j)))
include ha hb
theorem ev_add : Ev X (.BinOp a .Add b pos) env env2 (.d (.int (i + j))) := ev_op op_add (rv_I0 fun _ => .int _) ha hb
theorem ev_sub : Ev X (.BinOp a .Sub b pos) env env2 (.d (.int (i - j))) := ev_op op_sub (rv_I0 fun _ => .int _) ha hb
theorem ev_mul (h : CMul i j) : Ev X (.BinOp a .Mult b pos) env env2 (.d (.int (i * j))) := ev_op op_mul (rv_I h fun _ => .int _) ha hb
theorem ev_mod (h : 0 < j) : Ev X (.BinOp a .Mod b pos) env env2 (.d (.int (i % j))) := ev_op op_mod (rv_I h fun _ => .int _) ha hb
theorem ev_fdiv (h : CDiv i j) : Ev X (.BinOp a .FloorDiv b pos) env env2 (.d (.int (i / j))) := ev_op op_fdiv (rv_I h fun _ => .int _) ha hb
theorem ev_pow (h : CPow i j) : Ev X (.BinOp a .Pow b pos) env env2 (.d (.int (i ^ j.toNat))) := ev_op op_pow (rv_I h fun _ => .int _) ha hb
theorem ev_lt : Ev X (.Compare a [.Lt] [b] pos) env env2 (.d (.bool (decide (i < j)))) := ev_cmp op_lt (rv_I0 fun _ => .bl _) ha hb
theorem ev_ge : Ev X (.Compare a [.GtE] [b] pos) env env2 (.d (.bool (decide (j ≤ i)))) := ev_cmp op_ge (rv_I0 fun _ => .bl _) ha hb
theorem ev_gt : Ev X (.Compare a [.Gt] [b] pos) env env2 (.d (.bool (decide (j < i)))) := ev_cmp op_gt (rv_I0 fun _ => .bl _) ha hb
theorem et_lt : Et X (.Compare a [.Lt] [b] pos) env env2 (decide (i < j)) := et_cmp op_lt (rv_I0 fun _ => .bl _) ha hb
theorem et_gt : Et X (.Compare a [.Gt] [b] pos) env env2 (decide (j < i)) := et_cmp op_gt (rv_I0 fun _ => .bl _) ha hb
end
theorem ev_neg (ha : Ev X a env env1 (.d (.int i))) : Ev X (.UnaryOp .USub a pos) env env1 (.d (.int (-i))) := ev_un un_neg (fun H H1 x Q e p k => ⟨i, dp_int p, k.dd e (.int _)⟩) ha
/-! == -/
section
variable (ha : Ev X a env env1 (.d d1)) (hb : Ev X b env1 env2 (.d d2)) (hu : X.A.units + 64 < cLine) (s1 : SeqAt.shaped d1 = true) (s2 : SeqAt.shaped d2 = true)
include ha hb hu s1 s2
theorem ev_eq : Ev X (.Compare a [.Eq] [b] pos) env env2 (.d (.bool (PyData.eqv d1 d2))) := ev_cmp (op_eqD hu) (fun H H1 x y Q e p q k => ⟨d1, d2, dp_ex e p, dp_ex e q, s1, s2, k.dd e (.bl _)⟩) ha hb
theorem ev_ne : Ev X (.Compare a [.NotEq] [b] pos) env env2 (.d (.bool (!PyData.eqv d1 d2))) := ev_cmp (op_neD hu) (fun H H1 x y Q e p q k => ⟨d1, d2, dp_ex e p, dp_ex e q, s1, s2, k.dd e (.bl _)⟩) ha hb
theorem et_eq : Et X (.Compare a [.Eq] [b] pos) env env2 (PyData.eqv d1 d2) := et_cmp (op_eqD hu) (fun H H1 x y Q e p q k => ⟨d1, d2, dp_ex e p, dp_ex e q, s1, s2, k.dd e (.bl _)⟩) ha hb
theorem et_ne : Et X (.Compare a [.NotEq] [b] pos) env env2 (!PyData.eqv d1 d2) := et_cmp (op_neD hu) (fun H H1 x y Q e p q k => ⟨d1, d2, dp_ex e p, dp_ex e q, s1, s2, k.dd e (.bl _)⟩) ha hb
end
/-! texts -/
theorem ev_cats {x y : Str} (h : x.length + y.length ≤ 100000) (ha : Ev X a env env1 (.d (.str x))) (hb : Ev X b env1 env2 (.d (.str y))) : Ev X (.BinOp a .Add b pos) env env2 (.d (.str (x ++ y))) :=
  ev_op op_add_str (fun H H1 v w Q e p q k => ⟨x, y, dp_str p, dp_str q, sz5 h, k.dd e (.str _)⟩) ha hb
/-! lists, tuples -/
theorem ixlE {x : V} {H : Hp} (q : Dp K H x (.list ds)) (e : atI ds i = some d) : ∃ p xs v, x = .ref p ∧ SqL K H p xs ∧ atI xs i = some v ∧ Dp K H v d := by
  obtain ⟨p, xs, rfl, hs, hd⟩ := dp_lst q
  obtain ⟨v, hv, pv⟩ := dpa_atI hd e
  exact ⟨p, xs, v, rfl, hs, hv, pv⟩
theorem ixtE {x : V} {H : Hp} (q : Dp K H x (.tuple ds)) (e : atI ds i = some d) : ∃ p xs v, x = .ref p ∧ SqT K H p xs ∧ atI xs i = some v ∧ Dp K H v d := by
  obtain ⟨p, xs, rfl, hs, hd⟩ := dp_tup q
  obtain ⟨v, hv, pv⟩ := dpa_atI hd e
  exact ⟨p, xs, v, rfl, hs, hv, pv⟩
theorem ev_ixl (h : atI ds i = some d) (ha : Ev X a env env1 (.d (.list ds))) (hb : Ev X b env1 env2 (.d (.int i))) (hs : PlainIx b := by exact fun _ _ => rfl) : Ev X (.Subscript a b pos) env env2 (.d d) :=
  ev_ix ix_list (fun H H1 x y Q e p q k => by
    obtain ⟨l, xs, v, ex, hs, hv, pv⟩ := ixlE p h
    exact ⟨l, xs, i, v, ex, dp_int q, ex_l e hs, hv, k.dd e pv⟩) ha hb hs
theorem ev_ixt (h : atI ds i = some d) (ha : Ev X a env env1 (.d (.tuple ds))) (hb : Ev X b env1 env2 (.d (.int i))) (hs : PlainIx b := by exact fun _ _ => rfl) : Ev X (.Subscript a b pos) env env2 (.d d) :=
  ev_ix ix_tup (fun H H1 x y Q e p q k => by
    obtain ⟨l, xs, v, ex, hs, hv, pv⟩ := ixtE p h
    exact ⟨l, xs, i, v, ex, dp_int q, ex_t e hs, hv, k.dd e pv⟩) ha hb hs
theorem ev_ixs {z : Str} {cp : Nat} (hz : z.length ≤ 100000) (h : atI z.cps.toList i = some cp) (ha : Ev X a env env1 (.d (.str z))) (hb : Ev X b env1 env2 (.d (.int i))) (hs : PlainIx b := by exact fun _ _ => rfl) : Ev X (.Subscript a b pos) env env2 (.d (.str ⟨#[cp]⟩)) :=
  ev_ix ix_str (fun H H1 x y Q e p q k => ⟨z, i, cp, dp_str p, dp_int q, sz5 hz, h, k.dd e (.str _)⟩) ha hb hs
/-! slices -/
def Eo (X : Cx) (e : Option Expr) (env : List Sd) (o : Option Int) : Prop := ∃ t, PO X e t ∧ ∀ β σ H H1 (Q : Option Int → Hp → Prop), St X.K β σ H H1 env → (∀ H' H2, St X.K β σ H' H2 env → Ex H H' → Q o H2) → t σ H1 Q
theorem eo_none : Eo X none env none := ⟨tNoPart, po_none, fun β σ H H1 Q S q => q H H1 S (Ex.refl H)⟩
theorem eo_some (h : Ev X e env env (.d (.int i))) : Eo X (some e) env (some i) := ⟨_, po_some peW, fun β σ H H1 Q S q => h β σ H H1 _ S fun v H' H2 S' ex R => ⟨i, dp_int R.d, q H' H2 S' ex⟩⟩
def cutD {α : Type} (xs : List α) (lo hi : Option Int) : List α := (xs.drop (HT.sIx xs.length 0 lo)).take (HT.sIx xs.length xs.length hi - HT.sIx xs.length 0 lo)
theorem dpa_drop {H : Hp} : ∀ {xs : List V} {ds : List PyData} (n : Nat), DpAll K H xs ds → DpAll K H (xs.drop n) (ds.drop n)
  | _, _, 0, h => h
  | _, _, n + 1, .nil => .nil
  | _, _, n + 1, .cons _ a => dpa_drop n a
theorem dpa_take {H : Hp} : ∀ {xs : List V} {ds : List PyData} (n : Nat), DpAll K H xs ds → DpAll K H (xs.take n) (ds.take n)
  | _, _, 0, h => by cases h <;> exact .nil
  | _, _, n + 1, .nil => .nil
  | _, _, n + 1, .cons h a => .cons h (dpa_take n a)
theorem dpa_cut {H : Hp} {xs : List V} {lo hi : Option Int} (h : DpAll K H xs ds) : DpAll K H (cutV xs lo hi) (cutD ds lo hi) := by
  unfold cutV cutD
  rw [h.len]
  exact dpa_take _ (dpa_drop _ h)
theorem ev_slL {lo hi : Option Expr} {l h : Option Int} {p2 : Pos} (ha : Ev X a env env1 (.d (.list ds))) (hl : Eo X lo env1 l) (hh : Eo X hi env1 h) : Ev X (.Subscript a (.Slice lo hi none p2) pos) env env1 (.o none (Lf X.K (cutD ds l h))) := fun β σ H H1 Q S q => by
  obtain ⟨tl, pl, ql⟩ := hl
  obtain ⟨th, ph, qh⟩ := hh
  exact teW.of (pe_slice sl_list peW pl ph) (ha β σ H H1 _ S fun x Ha Hb Sa ea Ra => ql β σ Ha Hb _ Sa fun Hc Hd Sc ec => qh β σ Hc Hd _ Sc fun He Hf Se ee => by
    obtain ⟨p, xs, rfl, hs, hd⟩ := dp_lst (dp_ex (ec.trans ee) Ra.d)
    exact ⟨p, xs, rfl, ex_l Se.ex hs, (KR.of Se (ea.trans (ec.trans ee)) q).newL Se.ex (dpa_cut hd)⟩)
theorem ev_slS {lo hi : Option Expr} {l h : Option Int} {p2 : Pos} {z : Str} (hz : z.length ≤ 100000) (ha : Ev X a env env1 (.d (.str z))) (hl : Eo X lo env1 l) (hh : Eo X hi env1 h) : Ev X (.Subscript a (.Slice lo hi none p2) pos) env env1 (.d (.str (cutS z l h))) := fun β σ H H1 Q S q => by
  obtain ⟨tl, pl, ql⟩ := hl
  obtain ⟨th, ph, qh⟩ := hh
  exact teW.of (pe_slice sl_str peW pl ph) (ha β σ H H1 _ S fun x Ha Hb Sa ea Ra => ql β σ Ha Hb _ Sa fun Hc Hd Sc ec => qh β σ Hc Hd _ Sc fun He Hf Se ee =>
    ⟨z, dp_str Ra.d, sz5 hz, (KR.of Se (ea.trans (ec.trans ee)) q).dd Se.ex (.str _)⟩)
/-! in -/
theorem inV_str (x : Str) : ∀ ns : List Str, inV (.str x) (ns.map V.str) = decide (x ∈ ns)
  | [] => rfl
  | n :: ns => by
    have ih := inV_str x ns
    unfold inV at ih ⊢
    rw [List.map_cons, List.any_cons, ih]
    show ((n == x) || decide (x ∈ ns)) = decide (x ∈ n :: ns)
    by_cases h : n = x
    · subst h; simp
    · have : ¬ x = n := fun z => h z.symm
      simp [h, this]
theorem inV_int (x : Int) : ∀ ns : List Int, inV (.int x) (ns.map V.int) = decide (x ∈ ns)
  | [] => rfl
  | n :: ns => by
    have ih := inV_int x ns
    unfold inV at ih ⊢
    rw [List.map_cons, List.any_cons, ih]
    show ((n == x) || decide (x ∈ ns)) = decide (x ∈ n :: ns)
    by_cases h : n = x
    · subst h; simp
    · have : ¬ x = n := fun z => h z.symm
      simp [h, this]
theorem rv_ninS {x : Str} {ns : List Str} : RvD K (rIn K true) (.str x) (.tuple (ns.map .str)) (.d (.bool (!decide (x ∈ ns)))) := fun H H1 v w Q e p q k => by
  obtain ⟨a, xs, rfl, hs, hd⟩ := dp_tup q
  have := hd.strs; subst this
  have := dp_str p; subst this
  exact ⟨a, _, rfl, .inr (ex_t e hs), rfl, by rw [List.all_map]; exact List.all_eq_true.mpr fun _ _ => rfl, by rw [if_pos rfl, inV_str]; exact k.dd e (.bl _)⟩
theorem rv_ninI {x : Int} {ns : List Int} : RvD K (rIn K true) (.int x) (.tuple (ns.map .int)) (.d (.bool (!decide (x ∈ ns)))) := fun H H1 v w Q e p q k => by
  obtain ⟨a, xs, rfl, hs, hd⟩ := dp_tup q
  have := hd.ints; subst this
  have := dp_int p; subst this
  exact ⟨a, _, rfl, .inr (ex_t e hs), rfl, by rw [List.all_map]; exact List.all_eq_true.mpr fun _ _ => rfl, by rw [if_pos rfl, inV_int]; exact k.dd e (.bl _)⟩
/-! built-ins -/
theorem dpa1 {vs : List V} {H : Hp} (h : DpAll K H vs [d]) : ∃ v, vs = [v] ∧ Dp K H v d := by
  cases h with
  | cons h t => cases t; exact ⟨_, rfl, h⟩
theorem dpa2 {vs : List V} {H : Hp} (h : DpAll K H vs [d1, d2]) : ∃ v w, vs = [v, w] ∧ Dp K H v d1 ∧ Dp K H w d2 := by
  cases h with
  | cons h t => cases t with | cons h2 t => cases t; exact ⟨_, _, rfl, h, h2⟩
theorem rc_lenL : RcD X.K (fun xs H Q => ∃ p ys, xs = [.ref p] ∧ (SqL X.K H p ys ∨ SqT X.K H p ys) ∧ Q (.int ys.length) H) [.list ds] (.d (.int ds.length)) := fun H H1 vs Q e h k => by
  obtain ⟨v, rfl, hv⟩ := dpa1 h
  obtain ⟨p, xs, rfl, hs, hd⟩ := dp_lst hv
  exact ⟨p, xs, rfl, .inl (ex_l e hs), by rw [hd.len]; exact k.dd e (.int _)⟩
theorem rc_lenT : RcD X.K (fun xs H Q => ∃ p ys, xs = [.ref p] ∧ (SqL X.K H p ys ∨ SqT X.K H p ys) ∧ Q (.int ys.length) H) [.tuple ds] (.d (.int ds.length)) := fun H H1 vs Q e h k => by
  obtain ⟨v, rfl, hv⟩ := dpa1 h
  obtain ⟨p, xs, rfl, hs, hd⟩ := dp_tup hv
  exact ⟨p, xs, rfl, .inr (ex_t e hs), by rw [hd.len]; exact k.dd e (.int _)⟩
theorem ev_lenL (hm : X.mg "len" = none) (h : Ed X [e] env env' [.list ds]) (hg : Gl X "len" := by rfl) (he : starEach [e] X.env = (false, eval e X.env) :: starEach [] X.env := by rfl) : Ev X (.Call (.Name "len" p) [e] [] pos) env env' (.d (.int ds.length)) := ev_cb call_len_seq rc_lenL hm h hg PySem.boot_len (by decide) (by decide) he rfl
theorem ev_lenT (hm : X.mg "len" = none) (h : Ed X [e] env env' [.tuple ds]) (hg : Gl X "len" := by rfl) (he : starEach [e] X.env = (false, eval e X.env) :: starEach [] X.env := by rfl) : Ev X (.Call (.Name "len" p) [e] [] pos) env env' (.d (.int ds.length)) := ev_cb call_len_seq rc_lenT hm h hg PySem.boot_len (by decide) (by decide) he rfl
theorem ev_lenS {z : Str} (hz : z.length ≤ 100000) (hm : X.mg "len" = none) (h : Ed X [e] env env' [.str z]) (hg : Gl X "len" := by rfl) (he : starEach [e] X.env = (false, eval e X.env) :: starEach [] X.env := by rfl) : Ev X (.Call (.Name "len" p) [e] [] pos) env env' (.d (.int z.length)) :=
  ev_cb call_len_str (fun H H1 vs Q e h k => by
    obtain ⟨v, rfl, hv⟩ := dpa1 h
    exact ⟨z, by rw [dp_str hv], sz5 hz, k.dd e (.int _)⟩) hm h hg PySem.boot_len (by decide) (by decide) he rfl
theorem boot_sum' : bootBuiltins "sum" = some (.builtin "sum") := by decide +kernel
theorem boot_abs' : bootBuiltins "abs" = some (.builtin "abs") := by decide +kernel
theorem boot_min' : bootBuiltins "min" = some (.builtin "min") := by decide +kernel
theorem boot_max' : bootBuiltins "max" = some (.builtin "max") := by decide +kernel
theorem boot_int' : bootBuiltins "int" = some (.type "int") := by decide +kernel
theorem boot_list' : bootBuiltins "list" = some (.type "list") := by decide +kernel
theorem boot_all' : bootBuiltins "all" = some (.builtin "all") := by decide +kernel
theorem boot_set' : bootBuiltins "set" = some (.type "set") := by decide +kernel
theorem boot_dict' : bootBuiltins "dict" = some (.type "dict") := by decide +kernel
theorem ev_sumL {ns : List Int} (hm : X.mg "sum" = none) (h : Ed X [e] env env' [.list (ns.map .int)]) (hg : Gl X "sum" := by rfl) (hc : X.calm = true := by rfl) (he : starEach [e] X.env = (false, eval e X.env) :: starEach [] X.env := by rfl) : Ev X (.Call (.Name "sum" p) [e] [] pos) env env' (.d (.int ns.sum)) :=
  ev_cb (cr_sum hc) (fun H H1 vs Q e h k => by
    obtain ⟨v, rfl, hv⟩ := dpa1 h
    obtain ⟨p, xs, rfl, hs, hd⟩ := dp_lst hv
    have := hd.ints; subst this
    exact ⟨p, ns, rfl, ex_l e hs, k.dd e (.int _)⟩) hm h hg boot_sum' (by decide) (by decide) he rfl
theorem ev_sumT {ns : List Int} (hm : X.mg "sum" = none) (h : Ed X [e] env env' [.tuple (ns.map .int)]) (hg : Gl X "sum" := by rfl) (hc : X.calm = true := by rfl) (he : starEach [e] X.env = (false, eval e X.env) :: starEach [] X.env := by rfl) : Ev X (.Call (.Name "sum" p) [e] [] pos) env env' (.d (.int ns.sum)) :=
  ev_cb (cr_sumT hc) (fun H H1 vs Q e h k => by
    obtain ⟨v, rfl, hv⟩ := dpa1 h
    obtain ⟨p, xs, rfl, hs, hd⟩ := dp_tup hv
    have := hd.ints; subst this
    exact ⟨p, ns, rfl, ex_t e hs, k.dd e (.int _)⟩) hm h hg boot_sum' (by decide) (by decide) he rfl
def absI (i : Int) : Int := if i < 0 then -i else i
theorem ev_abs (hm : X.mg "abs" = none) (h : Ed X [e] env env' [.int i]) (hg : Gl X "abs" := by rfl) (he : starEach [e] X.env = (false, eval e X.env) :: starEach [] X.env := by rfl) : Ev X (.Call (.Name "abs" p) [e] [] pos) env env' (.d (.int (absI i))) :=
  ev_cb call_abs (fun H H1 vs Q e h k => by
    obtain ⟨v, rfl, hv⟩ := dpa1 h
    exact ⟨i, by rw [dp_int hv], k.dd e (.int _)⟩) hm h hg boot_abs' (by decide) (by decide) he rfl
theorem ev_min {e2 : Expr} (hm : X.mg "min" = none) (h : Ed X [e, e2] env env' [.int i, .int j]) (hg : Gl X "min" := by rfl) (hc : X.calm = true := by rfl) (he : starEach [e, e2] X.env = (false, eval e X.env) :: starEach [e2] X.env := by rfl) (hpl : (backTo pos (starEach [e2] X.env)).any (·.1) = false := by rfl) : Ev X (.Call (.Name "min" p) [e, e2] [] pos) env env' (.d (.int (min2 i j))) :=
  ev_cb (call_min2 hc) (fun H H1 vs Q e h k => by
    obtain ⟨v, w, rfl, hv, hw⟩ := dpa2 h
    exact ⟨i, j, by rw [dp_int hv, dp_int hw], k.dd e (.int _)⟩) hm h hg boot_min' (by decide) (by decide) he hpl
def max2 (i j : Int) : Int := if j > i then j else i
theorem ev_max {e2 : Expr} (hm : X.mg "max" = none) (h : Ed X [e, e2] env env' [.int i, .int j]) (hg : Gl X "max" := by rfl) (hc : X.calm = true := by rfl) (he : starEach [e, e2] X.env = (false, eval e X.env) :: starEach [e2] X.env := by rfl) (hpl : (backTo pos (starEach [e2] X.env)).any (·.1) = false := by rfl) : Ev X (.Call (.Name "max" p) [e, e2] [] pos) env env' (.d (.int (max2 i j))) :=
  ev_cb (call_max2 hc) (fun H H1 vs Q e h k => by
    obtain ⟨v, w, rfl, hv, hw⟩ := dpa2 h
    exact ⟨i, j, by rw [dp_int hv, dp_int hw], k.dd e (.int _)⟩) hm h hg boot_max' (by decide) (by decide) he hpl
def b2n (k : Bool) : Int := if k = true then 1 else 0
theorem ev_intI (hm : X.mg "int" = none) (h : Ed X [e] env env' [.int i]) (hg : Gl X "int" := by rfl) (he : starEach [e] X.env = (false, eval e X.env) :: starEach [] X.env := by rfl) : Ev X (.Call (.Name "int" p) [e] [] pos) env env' (.d (.int i)) :=
  ev_ty call_int1 (fun H H1 vs Q e h k => by
    obtain ⟨v, rfl, hv⟩ := dpa1 h
    exact .inl ⟨i, by rw [dp_int hv], k.dd e (.int _)⟩) hm h hg boot_int' (by decide) (by decide) he rfl
theorem ev_intB {bb : Bool} (hm : X.mg "int" = none) (h : Ed X [e] env env' [.bool bb]) (hg : Gl X "int" := by rfl) (he : starEach [e] X.env = (false, eval e X.env) :: starEach [] X.env := by rfl) : Ev X (.Call (.Name "int" p) [e] [] pos) env env' (.d (.int (b2n bb))) :=
  ev_ty call_int1 (fun H H1 vs Q e h k => by
    obtain ⟨v, rfl, hv⟩ := dpa1 h
    exact .inr ⟨bb, by rw [dp_bl hv], k.dd e (.int _)⟩) hm h hg boot_int' (by decide) (by decide) he rfl
theorem ev_all {bs : List Bool} (hm : X.mg "all" = none) (h : Ed X [e] env env' [.list (bs.map .bool)]) (hg : Gl X "all" := by rfl) (hc : X.calm = true := by rfl) (he : starEach [e] X.env = (false, eval e X.env) :: starEach [] X.env := by rfl) : Ev X (.Call (.Name "all" p) [e] [] pos) env env' (.d (.bool (bs.all id))) :=
  ev_cb (cr_all hc) (fun H H1 vs Q e h k => by
    obtain ⟨v, rfl, hv⟩ := dpa1 h
    obtain ⟨p, xs, rfl, hs, hd⟩ := dp_lst hv
    have := hd.bls; subst this
    exact ⟨p, bs, rfl, ex_l e hs, k.dd e (.bl _)⟩) hm h hg boot_all' (by decide) (by decide) he rfl
theorem ev_tupL (hm : X.mg "tuple" = none) (h : Ed X [e] env env' [.list ds]) (hg : Gl X "tuple" := by rfl) (he : starEach [e] X.env = (false, eval e X.env) :: starEach [] X.env := by rfl) : Ev X (.Call (.Name "tuple" p) [e] [] pos) env env' (.d (.tuple ds)) :=
  ev_ty call_tuple_of (fun H H1 vs Q e h k => by
    obtain ⟨v, rfl, hv⟩ := dpa1 h
    obtain ⟨p, xs, rfl, hs, hd⟩ := dp_lst hv
    exact ⟨p, xs, rfl, .inl ⟨ex_l e hs, k.newT e hd⟩⟩) hm h hg PyProof.Rows.boot_tuple (by decide) (by decide) he rfl
theorem ev_listL (hm : X.mg "list" = none) (h : Ed X [e] env env' [.list ds]) (hg : Gl X "list" := by rfl) (he : starEach [e] X.env = (false, eval e X.env) :: starEach [] X.env := by rfl) : Ev X (.Call (.Name "list" p) [e] [] pos) env env' (.o none (Lf X.K ds)) :=
  ev_ty call_list_of (fun H H1 vs Q e h k => by
    obtain ⟨v, rfl, hv⟩ := dpa1 h
    obtain ⟨p, xs, rfl, hs, hd⟩ := dp_lst hv
    exact ⟨p, xs, rfl, .inl (ex_l e hs), k.newL e hd⟩) hm h hg boot_list' (by decide) (by decide) he rfl
theorem ev_listS {z : Str} (hz : z.cps.size ≤ 100000) (hm : X.mg "list" = none) (h : Ed X [e] env env' [.str z]) (hg : Gl X "list" := by rfl) (hc : X.calm = true := by rfl) (he : starEach [e] X.env = (false, eval e X.env) :: starEach [] X.env := by rfl) : Ev X (.Call (.Name "list" p) [e] [] pos) env env' (.o none (Lf X.K ((signs z).map .str))) :=
  ev_ty (call_listStr hc) (fun H H1 vs Q e h k => by
    obtain ⟨v, rfl, hv⟩ := dpa1 h
    exact ⟨z, by rw [dp_str hv], sz5 hz, k.newL e (dpa_strs _)⟩) hm h hg boot_list' (by decide) (by decide) he rfl
/-! a new tuple whose own object is known -/
def TfP (K : PySem.W.Frag) (ds : List PyData) : HO → Hp → Prop := fun o H => ∃ ob ys, o = .frz ob (.tup ys) ∧ PlTup ob ∧ DpAll K H ys ds
theorem Ev.ct (h : Ev X e env env' (.c (TfP X.K ds))) : Ev X e env env' (.d (.tuple ds)) := fun β σ H H1 Q S q => h β σ H H1 Q S fun v H' H2 S' ex R => by
  obtain ⟨p, o, ev, hp, m⟩ := R.ok
  cases ev
  obtain ⟨ob, ys, rfl, _, hd⟩ := m H' (Ex.refl H')
  exact q _ H' H2 S' ex (.dd (.tup (.inl (.inr ⟨ob, hp⟩)) hd))
theorem KR.newC {H H1 : Hp} {Q : VK} {φ : HO → Hp → Prop} {o : HO} (k : KR K H H1 (.c φ) Q) (e : Ex H H1) (h : ∀ H', Ex H H' → φ o H') : ∀ p, H1 p = none → Q (.ref p) (upd H1 p o) := fun p hp =>
  k _ _ _ (Up.new e hp) ⟨⟨p, o, rfl, upd_same, fun H' ex => h H' ((Ex.new (fresh_back e hp)).trans ex)⟩, fun _ _ z => nomatch z⟩
theorem ev_tupF (hm : X.mg "tuple" = none) (h : Ed X [e] env env' [.list ds]) (hg : Gl X "tuple" := by rfl) (he : starEach [e] X.env = (false, eval e X.env) :: starEach [] X.env := by rfl) : Ev X (.Call (.Name "tuple" p) [e] [] pos) env env' (.c (TfP X.K ds)) :=
  ev_ty call_tupleF (fun H H1 vs Q e h k => by
    obtain ⟨v, rfl, hv⟩ := dpa1 h
    obtain ⟨p, xs, rfl, hs, hd⟩ := dp_lst hv
    exact ⟨p, xs, rfl, ex_l e hs, fun l o ho hl => k.newC e (fun H' ex => ⟨o, xs, rfl, ho, dpa_ex ex hd⟩) l hl⟩) hm h hg PyProof.Rows.boot_tuple (by decide) (by decide) he rfl
end
end Ol
set_option Elab.async false
set_option linter.all false
/-! OlSort: sorted lists, told as functions. -/
namespace Ol
open PySem
theorem ltS_tot {x y : Str} (h1 : OlS.ltS x y = false) (h2 : OlS.ltS y x = false) : x = y := by
  have a := of_decide_eq_false (p := x.cps.toList < y.cps.toList) h1
  have b := of_decide_eq_false (p := y.cps.toList < x.cps.toList) h2
  have e : x.cps.toList = y.cps.toList := List.le_antisymm (List.not_lt.mp b) (List.not_lt.mp a)
  cases x; cases y
  exact congrArg Str.mk (Array.toList_inj.mp e)
section
variable {α : Type} (key : α → Str)
def ins (a : α) : List α → List α
  | [] => [a]
  | b :: r => if OlS.ltS (key b) (key a) = true then b :: ins a r else a :: b :: r
def srt : List α → List α
  | [] => []
  | a :: r => ins key a (srt r)
def Rise (l : List α) : Prop := l.Pairwise fun e f => OlS.ltS (key f) (key e) = false
theorem ins_perm (a : α) : ∀ l : List α, (ins key a l).Perm (a :: l)
  | [] => .refl _
  | b :: r => by
    unfold ins
    split
    · exact ((ins_perm a r).cons b).trans (.swap a b r)
    · exact .refl _
theorem srt_perm : ∀ l : List α, (srt key l).Perm l
  | [] => .refl _
  | a :: r => (ins_perm key a (srt key r)).trans ((srt_perm r).cons a)
theorem srt_len (l : List α) : (srt key l).length = l.length := (srt_perm key l).length_eq
theorem ins_rise (a : α) : ∀ l : List α, Rise key l → Rise key (ins key a l)
  | [], _ => List.pairwise_singleton _ _
  | b :: r, h => by
    have hb := List.pairwise_cons.mp h
    unfold ins
    split
    · rename_i c
      refine List.pairwise_cons.mpr ⟨fun f hf => ?_, ins_rise a r hb.2⟩
      rcases List.mem_cons.mp ((ins_perm key a r).mem_iff.mp hf) with z | z
      · subst z; exact OlS.swo_ltS.asym _ _ c
      · exact hb.1 f z
    · rename_i c
      have c' : OlS.ltS (key b) (key a) = false := by simpa using c
      refine List.pairwise_cons.mpr ⟨fun f hf => ?_, h⟩
      rcases List.mem_cons.mp hf with z | z
      · subst z; exact c'
      · exact OlS.swo_ltS.tr _ _ _ c' (hb.1 f z)
theorem srt_rise : ∀ l : List α, Rise key (srt key l)
  | [] => List.Pairwise.nil
  | a :: r => ins_rise key a _ (srt_rise r)
theorem rise_unique : ∀ {l m : List α}, l.Perm m → Rise key l → Rise key m → (∀ a ∈ l, ∀ b ∈ l, key a = key b → a = b) → l = m
  | [], m, p, _, _, _ => (List.perm_nil.mp p.symm).symm
  | a :: l, [], p, _, _, _ => by have := p.length_eq; simp at this
  | a :: l, b :: m, p, h1, h2, inj => by
    have e : a = b := by
      have p1 := List.pairwise_cons.mp h1
      have p2 := List.pairwise_cons.mp h2
      rcases List.mem_cons.mp (p.mem_iff.mp (List.mem_cons_self ..)) with z | z
      · exact z
      · rcases List.mem_cons.mp (p.mem_iff.mpr (List.mem_cons_self ..)) with w | w
        · exact w.symm
        · exact inj a (List.mem_cons_self ..) b (List.mem_cons_of_mem _ w) (ltS_tot (p2.1 a z) (p1.1 b w))
    subst e
    rw [rise_unique (l := l) (m := m) (List.Perm.cons_inv p) (List.pairwise_cons.mp h1).2 (List.pairwise_cons.mp h2).2 fun x hx y hy => inj x (List.mem_cons_of_mem _ hx) y (List.mem_cons_of_mem _ hy)]
theorem srt_unique {l xs : List α} (p : l.Perm xs) (h : Rise key l) (inj : ∀ a ∈ xs, ∀ b ∈ xs, key a = key b → a = b) : l = srt key xs :=
  rise_unique key (p.trans (srt_perm key xs).symm) h (srt_rise key xs) fun a ha b hb => inj a (p.mem_iff.mp ha) b (p.mem_iff.mp hb)
theorem nodup_inj {l : List α} (h : (l.map key).Nodup) : ∀ a ∈ l, ∀ b ∈ l, key a = key b → a = b := by
  induction l with
  | nil => intro a ha; simp at ha
  | cons x r ih =>
    rw [List.map_cons, List.nodup_cons] at h
    intro a ha b hb e
    rcases List.mem_cons.mp ha with z | z <;> rcases List.mem_cons.mp hb with w | w
    · rw [z, w]
    · exact absurd (List.mem_map.mpr ⟨b, w, by rw [← e, z]⟩) h.1
    · exact absurd (List.mem_map.mpr ⟨a, z, by rw [e, w]⟩) h.1
    · exact ih h.2 a z b w e
end
theorem srt_map {α β : Type} (key : β → Str) (f : α → β) : ∀ l : List α, srt key (l.map f) = (srt (fun a => key (f a)) l).map f := by
  have i : ∀ (a : α) (l : List α), ins key (f a) (l.map f) = (ins (fun a => key (f a)) a l).map f := by
    intro a l
    induction l with
    | nil => rfl
    | cons b r ih =>
      show (if OlS.ltS (key (f b)) (key (f a)) = true then f b :: ins key (f a) (r.map f) else f a :: f b :: r.map f) = (if OlS.ltS (key (f b)) (key (f a)) = true then b :: ins (fun a => key (f a)) a r else a :: b :: r).map f
      split
      · rw [ih]; rfl
      · rfl
  intro l
  induction l with
  | nil => rfl
  | cons a r ih =>
    show ins key (f a) (srt key (r.map f)) = _
    rw [ih, i]
    rfl
theorem srt_rel {α β : Type} {R : α → β → Prop} {k1 : α → Str} {k2 : β → Str} (hk : ∀ a b, R a b → k1 a = k2 b) : ∀ {l : List α} {m : List β}, Paired R l m → Paired R (srt k1 l) (srt k2 m) := by
  have i : ∀ {a : α} {b : β} {l : List α} {m : List β}, R a b → Paired R l m → Paired R (ins k1 a l) (ins k2 b m) := by
    intro a b l m h p
    induction p with
    | nil => exact .cons h .nil
    | @cons x y l m h1 p ih =>
      show Paired R (if OlS.ltS (k1 x) (k1 a) = true then x :: ins k1 a l else a :: x :: l) (if OlS.ltS (k2 y) (k2 b) = true then y :: ins k2 b m else b :: y :: m)
      rw [hk _ _ h, hk _ _ h1]
      split
      · exact .cons h1 ih
      · exact .cons h (.cons h1 p)
  intro l m p
  induction p with
  | nil => exact .nil
  | cons h p ih => exact i h ih
/-! ints, each once -/
def insI (a : Int) : List Int → List Int
  | [] => [a]
  | b :: r => if a < b then a :: b :: r else if a = b then b :: r else b :: insI a r
def setI : List Int → List Int
  | [] => []
  | a :: r => insI a (setI r)
theorem mem_insI {a x : Int} : ∀ {l : List Int}, x ∈ insI a l ↔ x = a ∨ x ∈ l
  | [] => by simp [insI]
  | b :: r => by
    unfold insI
    split
    · simp
    · split
      · rename_i h; subst h; simp
      · simp only [List.mem_cons, mem_insI (l := r)]
        constructor
        · rintro (h | h | h)
          · exact .inr (.inl h)
          · exact .inl h
          · exact .inr (.inr h)
        · rintro (h | h | h)
          · exact .inr (.inl h)
          · exact .inl h
          · exact .inr (.inr h)
theorem mem_setI {x : Int} : ∀ {l : List Int}, x ∈ setI l ↔ x ∈ l
  | [] => Iff.rfl
  | a :: r => by rw [show setI (a :: r) = insI a (setI r) from rfl, mem_insI, mem_setI (l := r), List.mem_cons]
theorem insI_rise {a : Int} : ∀ {l : List Int}, l.Pairwise (· < ·) → (insI a l).Pairwise (· < ·)
  | [], _ => List.pairwise_singleton _ _
  | b :: r, h => by
    have hb := List.pairwise_cons.mp h
    unfold insI
    split
    · rename_i c
      exact List.pairwise_cons.mpr ⟨fun f hf => by rcases List.mem_cons.mp hf with z | z; · subst z; exact c
                                                   · have := hb.1 f z; omega, h⟩
    · split
      · exact h
      · rename_i c1 c2
        refine List.pairwise_cons.mpr ⟨fun f hf => ?_, insI_rise hb.2⟩
        rcases mem_insI.mp hf with z | z
        · subst z; omega
        · exact hb.1 f z
theorem setI_rise : ∀ {l : List Int}, (setI l).Pairwise (· < ·)
  | [] => List.Pairwise.nil
  | a :: r => insI_rise setI_rise
theorem riseI_unique : ∀ {l m : List Int}, l.Pairwise (· < ·) → m.Pairwise (· < ·) → (∀ x, x ∈ l ↔ x ∈ m) → l = m
  | [], [], _, _, _ => rfl
  | [], b :: m, _, _, h => absurd ((h b).mpr (List.mem_cons_self ..)) (by simp)
  | a :: l, [], _, _, h => absurd ((h a).mp (List.mem_cons_self ..)) (by simp)
  | a :: l, b :: m, h1, h2, h => by
    have p1 := List.pairwise_cons.mp h1
    have p2 := List.pairwise_cons.mp h2
    have e : a = b := by
      rcases List.mem_cons.mp ((h a).mp (List.mem_cons_self ..)) with z | z
      · exact z
      · rcases List.mem_cons.mp ((h b).mpr (List.mem_cons_self ..)) with w | w
        · exact w.symm
        · have := p2.1 a z; have := p1.1 b w; omega
    subst e
    refine congrArg (a :: ·) (riseI_unique p1.2 p2.2 fun x => ?_)
    have hx := h x
    simp only [List.mem_cons] at hx
    constructor
    · intro z
      rcases hx.mp (.inr z) with w | w
      · subst w; exact absurd (p1.1 x z) (Int.lt_irrefl _)
      · exact w
    · intro z
      rcases hx.mpr (.inr z) with w | w
      · subst w; exact absurd (p2.1 x z) (Int.lt_irrefl _)
      · exact w
theorem setI_unique {l m : List Int} (h : l.Pairwise (· < ·)) (e : ∀ x, x ∈ l ↔ x ∈ m) : l = setI m := riseI_unique h setI_rise fun x => (e x).trans mem_setI.symm
/-! texts -/
abbrev srtS : List Str → List Str := srt id
open PySem.Spec PyProof.Rows in
theorem rise_of_sortedS : ∀ {l : List Str}, PyProof.Rows.sortedS l = true → Rise id l := by
  have step : ∀ (p : Str) (l : List Str), PyProof.Rows.risingS p l = true → (p :: l).Pairwise (fun e f => OlS.ltS f e = false) := by
    intro p l
    induction l generalizing p with
    | nil => intro _; exact List.pairwise_singleton _ _
    | cons x r ih =>
      intro h
      have h' : (!ltCps x.cps.toList p.cps.toList && PyProof.Rows.risingS x r) = true := h
      rw [Bool.and_eq_true] at h'
      have hr := ih x h'.2
      have h0 : OlS.ltS x p = false := by
        have : ltCps x.cps.toList p.cps.toList = false := by simpa using h'.1
        rw [ltCps_eq] at this
        exact this
      refine List.pairwise_cons.mpr ⟨fun f hf => ?_, hr⟩
      rcases List.mem_cons.mp hf with z | z
      · subst z; exact h0
      · exact OlS.swo_ltS.tr _ _ _ h0 ((List.pairwise_cons.mp hr).1 f z)
  intro l h
  cases l with
  | nil => exact List.Pairwise.nil
  | cons x r => exact step x r h
end Ol
set_option Elab.async false
set_option linter.all false
set_option maxRecDepth 100000
set_option maxHeartbeats 2000000
/-! OlOwn: lists and dicts of our own; zips, sorts, dict(..). -/
namespace Ol
open PySem L2
open Evl (Ex Ex.refl Ex.trans Ex.new ex_l ex_t fresh_back sz_of sz_lt)
section
variable {X : Cx} {K : PySem.W.Frag} {env env1 env2 env3 env' : List Sd} {e a b c value : Expr} {es : List Expr} {p pos apos cpos pos' : Pos} {d d1 d2 : PyData} {r : Sd} {ds ds0 ds2 : List PyData} {i j : Int} {o o0 : Option Addr} {φ φ0 : HO → Hp → Prop} {x y : Str}
/-- the address in a slot, and what stands there -/
theorem St.at {β : Bs} {σ : L2.St} {H H1 : Hp} {n : Nat} (S : St K β σ H H1 env) (h : env[n]? = some (.o o φ)) : ∃ q u, σ[n]? = some (some (.ref q)) ∧ H1 q = some u ∧ φ u H := by
  obtain ⟨z, hz, q, u, ez, _, _, h1, m⟩ := S.env.at_ n _ h
  subst ez
  exact ⟨q, u, hz, h1, m H (Ex.refl H)⟩
theorem St.atL {β : Bs} {σ : L2.St} {H H1 : Hp} {n : Nat} {q : Addr} (S : St K β σ H H1 env) (h : env[n]? = some (.o o (Lf K ds))) (hq : σ[n]? = some (some (.ref q))) : ∃ ys, H1 q = some (.lst ys) ∧ DpAll K H ys ds := by
  obtain ⟨q', u, h1, h2, ys, rfl, hd⟩ := S.at h
  rw [hq] at h1
  cases h1
  exact ⟨ys, h2, hd⟩

/-! ### lists of our own -/
theorem ev_ixO (n : Nat) (h : atI ds j = some d) (hb : Ev X b env env1 (.d (.int j))) (h0 : env[n]? = some (.o o0 φ0) := by rfl) (h1 : env1[n]? = some (.o o (Lf X.K ds)) := by rfl) (hN : X.N[n]? = some x := by rfl)
    (hv : Vis X.env.scope x := by first | exact Or.inl rfl | exact Or.inr (Or.inl rfl) | exact Or.inr (Or.inr rfl)) (hd : (x == ("__debug__" : Str)) = false := by decide) (hcd : (x == ("__classdict__" : Str)) = false := by decide) (hs : PlainIx b := by exact fun _ _ => rfl) :
    Ev X (.Subscript (.Name x p) b pos) env env1 (.d d) := fun β σ H H1 Q S q => by
  obtain ⟨l, u, hl, _⟩ := S.at h0
  refine teW.of (pe_ix ix_list (pe_var hN hv hd hcd) peW hs) ⟨.ref l, hl, hb β σ H H1 _ S fun v H' H2 S' ex R => ?_⟩
  obtain ⟨ys, hy, hdd⟩ := S'.atL h1 hl
  obtain ⟨w, hw, pw⟩ := dpa_atI hdd h
  exact ⟨l, ys, j, w, rfl, dp_int R.d, SqL.of hy, hw, (KR.of S' ex q).dd S'.ex pw⟩
theorem r1_app (n : Nat) (he : Ev X e env env1 (.d d)) (h0 : env[n]? = some (.o o0 (Lf X.K ds0))) (h1 : env1[n]? = some (.o o (Lf X.K ds))) (hlen : ds.length < 100000) (hN : X.N[n]? = some x := by rfl)
    (hv : Vis X.env.scope x := by first | exact Or.inl rfl | exact Or.inr (Or.inl rfl) | exact Or.inr (Or.inr rfl)) (hd : (x == ("__debug__" : Str)) = false := by decide) (hcd : (x == ("__classdict__" : Str)) = false := by decide)
    (hbase : attributeBase (.Name x p) "append" X.env (eval (.Name x p) X.env) = eval (.Name x p) X.env := by rfl) (hfew : ((backTo cpos (starEach [e] X.env)).all (fun x => !x.1) && (backToKw cpos (keywordEach [] X.env)).all (fun x => x.1.isSome) && decide ([e].length + ([] : List Keyword).length + (if ([] : List Keyword).isEmpty then 0 else 1) < 30)) = true := by rfl) (hline : (apos.endLine == cpos.line) = true := by rfl) (hs : starEach [e] X.env = (false, eval e X.env) :: starEach [] X.env := by rfl)
    (hsw : swapsWith (.Call (.Attribute (.Name x p) "append" apos) [e] [] cpos) none pos.line X.env = pure false := by rfl) :
    R1 X (.Expr (.Call (.Attribute (.Name x p) "append" apos) [e] [] cpos) pos) env (.nx (env1.set n (.o o (Lf X.K (ds ++ [d]))))) := fun β σ H H1 D hL S C => by
  obtain ⟨l, u, hl, _⟩ := S.at h0
  obtain ⟨ys0, hy0, _⟩ := S.atL h0 hl
  refine tsW.of (ps_expr (pe_bm PySem.F.plainAttrs_list PySem.F.slot_list_append PySem.F.type_list_append mt_append (pe_var hN hv hd hcd) (pa_cons peW pa_nil hs) hbase hfew hline hs rfl) hsw) ⟨.ref l, hl, .inl ⟨rfl, _, SqL.of hy0⟩, he β σ H H1 _ S fun v H' H2 S' ex R => ?_⟩
  obtain ⟨ys, hy, hdd⟩ := S'.atL h1 hl
  exact ⟨l, ys, v, rfl, rfl, hy, by rw [hdd.len]; exact sz5l hlen, C σ H' _ (S'.mut h1 hl fun Hx exx => ⟨_, rfl, (dpa_ex exx hdd).app (.cons (dp_ex exx R.d) .nil)⟩)⟩
theorem dpa_erase {H : Hp} : ∀ {xs : List V} {ds : List PyData} (n : Nat), DpAll K H xs ds → DpAll K H (xs.eraseIdx n) (ds.eraseIdx n)
  | _, _, _, .nil => .nil
  | _, _, 0, .cons _ a => a
  | _, _, n + 1, .cons h a => .cons h (dpa_erase n a)
theorem dpa_set {H : Hp} {v : V} (hv : Dp K H v d) : ∀ {xs : List V} {ds : List PyData} (n : Nat), DpAll K H xs ds → DpAll K H (xs.set n v) (ds.set n d)
  | _, _, _, .nil => .nil
  | _, _, 0, .cons _ a => .cons hv a
  | _, _, n + 1, .cons h a => .cons h (dpa_set hv n a)
theorem ev_pop (n : Nat) {k : Nat} (he : Ev X e env env1 (.d (.int k))) (h0 : env[n]? = some (.o o0 (Lf X.K ds0))) (h1 : env1[n]? = some (.o o (Lf X.K ds))) (hk : ds[k]? = some d) (hlen : ds.length ≤ 100000) (hN : X.N[n]? = some x := by rfl)
    (hv : Vis X.env.scope x := by first | exact Or.inl rfl | exact Or.inr (Or.inl rfl) | exact Or.inr (Or.inr rfl)) (hd : (x == ("__debug__" : Str)) = false := by decide) (hcd : (x == ("__classdict__" : Str)) = false := by decide)
    (hbase : attributeBase (.Name x p) "pop" X.env (eval (.Name x p) X.env) = eval (.Name x p) X.env := by rfl) (hfew : ((backTo cpos (starEach [e] X.env)).all (fun x => !x.1) && (backToKw cpos (keywordEach [] X.env)).all (fun x => x.1.isSome) && decide ([e].length + ([] : List Keyword).length + (if ([] : List Keyword).isEmpty then 0 else 1) < 30)) = true := by rfl) (hline : (apos.endLine == cpos.line) = true := by rfl) (hs : starEach [e] X.env = (false, eval e X.env) :: starEach [] X.env := by rfl) :
    Ev X (.Call (.Attribute (.Name x p) "pop" apos) [e] [] cpos) env (env1.set n (.o o (Lf X.K (ds.eraseIdx k)))) (.d d) := fun β σ H H1 Q S q => by
  obtain ⟨l, u, hl, _⟩ := S.at h0
  obtain ⟨ys0, hy0, _⟩ := S.atL h0 hl
  refine teW.of (pe_bm PySem.F.plainAttrs_list PySem.F.slot_list_pop PySem.F.type_list_pop mt_popAt (pe_var hN hv hd hcd) (pa_cons peW pa_nil hs) hbase hfew hline hs rfl) ⟨.ref l, hl, .inl ⟨rfl, _, SqL.of hy0⟩, he β σ H H1 _ S fun v H' H2 S' ex R => ?_⟩
  obtain ⟨ys, hy, hdd⟩ := S'.atL h1 hl
  obtain ⟨w, hw, pw⟩ := hdd.get hk
  have hkl : k < ds.length := (List.getElem?_eq_some_iff.mp hk).1
  have ev : v = .int k := dp_int R.d
  subst ev
  have S2 := S'.mut (o := .lst (ys.eraseIdx k)) h1 hl (ψ := Lf X.K (ds.eraseIdx k)) fun Hx exx => ⟨_, rfl, dpa_ex exx (dpa_erase k hdd)⟩
  exact ⟨l, ys, k, k, w, rfl, rfl, hy, by omega, by omega, by rw [hdd.len]; exact PySem.seqIndex_of (by omega) (by omega), hw, q w H' _ S2 ex (.dd pw)⟩
theorem r1_seti (n : Nat) {k : Nat} (hval : Ev X value env env1 (.d d)) (hb : Ev X b env1 env2 (.d (.int j))) (hk : ixN ds.length j = some k) (h0 : env1[n]? = some (.o o0 φ0) := by rfl) (h1 : env2[n]? = some (.o o (Lf X.K ds)) := by rfl) (hN : X.N[n]? = some x := by rfl)
    (hv : Vis X.env.scope x := by first | exact Or.inl rfl | exact Or.inr (Or.inl rfl) | exact Or.inr (Or.inr rfl)) (hd : (x == ("__debug__" : Str)) = false := by decide) (hcd : (x == ("__classdict__" : Str)) = false := by decide)
    (hsw : swapsWithSole [.Subscript (.Name x p) b pos'] value pos.line X.env = pure false := by rfl) (hw : swappedStores [.Subscript (.Name x p) b pos'] value X.env = pure none := by rfl)
    (h3 : (assignEach [.Subscript (.Name x p) b pos'] X.env).map (·.2) = [assign (.Subscript (.Name x p) b pos') X.env] := by rfl)
    (hasn : ∀ v, assign (.Subscript (.Name x p) b pos') X.env v = (do
      let ov ← holding [v] (eval (.Name x p) X.env)
      let iv ← holding [v, ov] (eval b X.env)
      standAt pos'
      holding [v, ov, iv] (setItem ov iv v)
      release [v, ov, iv] []) := by intro _; rfl) :
    R1 X (.Assign [.Subscript (.Name x p) b pos'] value pos) env (.nx (env2.set n (.o o (Lf X.K (ds.set k d))))) := fun β σ H H1 D hL S C => by
  refine tsW.of (ps_asg peW (pg_sub (pe_var hN hv hd hcd) peW set_list hasn) hsw hw h3) (hval β σ H H1 _ S fun v H' H2 S' ex R => ?_)
  obtain ⟨l, u, hl, _⟩ := S'.at h0
  refine ⟨.ref l, hl, hb β σ H' H2 _ S' fun w Ha Hb Sa ea Ra => ?_⟩
  obtain ⟨ys, hy, hdd⟩ := Sa.atL h1 hl
  exact ⟨l, ys, j, k, rfl, dp_int Ra.d, hy, by rw [hdd.len]; exact hk, C σ Ha _ (Sa.mut h1 hl fun Hx exx => ⟨_, rfl, dpa_ex exx (dpa_set (dp_ex ea R.d) k hdd)⟩)⟩
theorem ev_lenO (n : Nat) (hm : X.mg "len" = none) (h0 : env[n]? = some (.o o (Lf X.K ds)) := by rfl) (hg : Gl X "len" := by rfl) (hN : X.N[n]? = some x := by rfl)
    (hv : Vis X.env.scope x := by first | exact Or.inl rfl | exact Or.inr (Or.inl rfl) | exact Or.inr (Or.inr rfl)) (hd : (x == ("__debug__" : Str)) = false := by decide) (hcd : (x == ("__classdict__" : Str)) = false := by decide)
    (hs : starEach [.Name x p] X.env = (false, eval (.Name x p) X.env) :: starEach [] X.env := by rfl) : Ev X (.Call (.Name "len" pos') [.Name x p] [] pos) env env (.d (.int ds.length)) := fun β σ H H1 Q S q => by
  obtain ⟨l, u, hl, _⟩ := S.at h0
  obtain ⟨ys, hy, hdd⟩ := S.atL h0 hl
  exact teW.of (pe_callB call_len_seq hg hm PySem.boot_len (pa_cons (pe_var hN hv hd hcd) pa_nil hs) (by decide) (by decide) hs rfl) ⟨.ref l, hl, l, ys, rfl, .inl (SqL.of hy), by rw [hdd.len]; exact q _ H H1 S (Ex.refl H) (.dd (.int _))⟩

/-! ### dicts of our own -/
def DkAll (K : PySem.W.Frag) (H : Hp) : List (L2.Key × V) → List (L2.Key × PyData) → Prop := Paired fun p q => p.1 = q.1 ∧ Dp K H p.2 q.2
def Kf (K : PySem.W.Frag) (kvs : List (L2.Key × PyData)) : HO → Hp → Prop := fun u H => ∃ ys, u = .dK ys ∧ DkAll K H ys kvs
theorem dka_ex {H H' : Hp} {ys : List (L2.Key × V)} {kvs : List (L2.Key × PyData)} (ex : Ex H H') (h : DkAll K H ys kvs) : DkAll K H' ys kvs := by
  unfold DkAll at h ⊢
  induction h with
  | nil => exact .nil
  | cons h t ih => exact .cons ⟨h.1, dp_ex ex h.2⟩ ih
def keyD : L2.Key → PyData
  | .inl n => .int n
  | .inr z => .str z
theorem dp_key {H : Hp} {k : L2.Key} {v : V} (h : Dp K H v (keyD k)) : v = kV k := by
  cases k with
  | inl n => exact dp_int h
  | inr z => exact dp_str h
theorem key_dp {H : Hp} (k : L2.Key) : Dp K H (kV k) (keyD k) := by
  cases k with
  | inl n => exact .int n
  | inr z => exact .str z
def lookD (kvs : List (L2.Key × PyData)) (k : L2.Key) : Option PyData := (kvs.find? fun q => decide (q.1 = k)).map (·.2)
def putD (kvs : List (L2.Key × PyData)) (k : L2.Key) (d : PyData) : List (L2.Key × PyData) :=
  if (kvs.any fun q => decide (q.1 = k)) = true then kvs.map (fun q => if q.1 = k then (q.1, d) else q) else kvs ++ [(k, d)]
theorem DkAll.len {H : Hp} {ys : List (L2.Key × V)} {kvs : List (L2.Key × PyData)} (h : DkAll K H ys kvs) : ys.length = kvs.length := Paired.length h
theorem DkAll.look {H : Hp} {k : L2.Key} : ∀ {ys : List (L2.Key × V)} {kvs : List (L2.Key × PyData)}, DkAll K H ys kvs → (∀ d, lookD kvs k = some d → ∃ v, valV ys k = some v ∧ Dp K H v d) ∧ (valV ys k).isSome = (lookD kvs k).isSome
  | _, _, .nil => ⟨fun d h => by simp [lookD] at h, rfl⟩
  | _, _, .cons (a := u) (b := w) h t => by
    have ih := DkAll.look (k := k) t
    by_cases hk : u.1 = k
    · have hk2 : w.1 = k := by rw [← h.1]; exact hk
      refine ⟨fun d hd => ?_, ?_⟩
      · simp only [lookD, List.find?_cons, hk2, decide_true, Option.map_some] at hd
        cases hd
        exact ⟨u.2, valV_pos hk, h.2⟩
      · rw [valV_pos hk]; simp [lookD, hk2]
    · have hk2 : ¬ w.1 = k := by rw [← h.1]; exact hk
      refine ⟨fun d hd => ?_, ?_⟩
      · rw [valV_neg hk]
        exact ih.1 d (by simpa [lookD, List.find?_cons, hk2] using hd)
      · rw [valV_neg hk, ih.2]; simp [lookD, List.find?_cons, hk2]
theorem DkAll.any {H : Hp} {k : L2.Key} : ∀ {ys : List (L2.Key × V)} {kvs : List (L2.Key × PyData)}, DkAll K H ys kvs → (ys.any fun q => decide (q.1 = k)) = (kvs.any fun q => decide (q.1 = k))
  | _, _, .nil => rfl
  | _, _, .cons (a := u) (b := w) h t => by rw [List.any_cons, List.any_cons, h.1, DkAll.any t]
theorem dka_app {H : Hp} {ys zs : List (L2.Key × V)} {kvs lws : List (L2.Key × PyData)} (h : DkAll K H ys kvs) (h2 : DkAll K H zs lws) : DkAll K H (ys ++ zs) (kvs ++ lws) := by
  unfold DkAll at h h2 ⊢
  induction h with
  | nil => exact h2
  | cons h t ih => exact .cons h ih
theorem dka_repl {H : Hp} {k : L2.Key} {v : V} (hv : Dp K H v d) : ∀ {ys : List (L2.Key × V)} {kvs : List (L2.Key × PyData)}, DkAll K H ys kvs → DkAll K H (ys.map fun q => if q.1 = k then (q.1, v) else q) (kvs.map fun q => if q.1 = k then (q.1, d) else q)
  | _, _, .nil => .nil
  | _, _, .cons (a := u) (b := w) h t => by
    refine .cons ?_ (dka_repl hv t)
    show ((if u.1 = k then (u.1, v) else u).1 = (if w.1 = k then (w.1, d) else w).1) ∧ Dp K H (if u.1 = k then (u.1, v) else u).2 (if w.1 = k then (w.1, d) else w).2
    rw [h.1]
    split
    · exact ⟨rfl, hv⟩
    · exact ⟨h.1, h.2⟩
theorem DkAll.put {H : Hp} {k : L2.Key} {v : V} (hv : Dp K H v d) {ys : List (L2.Key × V)} {kvs : List (L2.Key × PyData)} (h : DkAll K H ys kvs) : DkAll K H (putK ys k v) (putD kvs k d) := by
  unfold putK putD
  rw [h.any]
  split
  · exact dka_repl hv h
  · exact dka_app h (.cons ⟨rfl, hv⟩ .nil)
theorem DkAll.merge {H : Hp} : ∀ {ms : List (L2.Key × V)} {mds : List (L2.Key × PyData)} {ys : List (L2.Key × V)} {kvs : List (L2.Key × PyData)}, DkAll K H ms mds → DkAll K H ys kvs → DkAll K H (mergeK ys ms) (mds.foldl (fun acc q => putD acc q.1 q.2) kvs)
  | _, _, _, _, .nil, h => h
  | _, _, ys, kvs, .cons (a := u) (b := w) h t, h0 => by
    show DkAll K H (mergeK (putK ys u.1 u.2) _) _
    rw [List.foldl_cons, h.1]
    exact DkAll.merge t (h0.put h.2)
theorem St.atK {β : Bs} {σ : L2.St} {H H1 : Hp} {n : Nat} {q : Addr} {kvs : List (L2.Key × PyData)} (S : St K β σ H H1 env) (h : env[n]? = some (.o o (Kf K kvs))) (hq : σ[n]? = some (some (.ref q))) : ∃ ys, H1 q = some (.dK ys) ∧ DkAll K H ys kvs := by
  obtain ⟨q', u, h1, h2, ys, rfl, hd⟩ := S.at h
  rw [hq] at h1
  cases h1
  exact ⟨ys, h2, hd⟩
variable {kvs : List (L2.Key × PyData)} {k : L2.Key}
theorem ev_dnew : Ev X (.Dict [] [] pos) env env (.o none (Kf X.K [])) := fun β σ H H1 Q S q =>
  teW.of pe_dnewK ((KR.of S (Ex.refl H) q).newO S.ex fun _ _ => ⟨[], rfl, .nil⟩)
theorem ev_dget (n : Nat) (h : lookD kvs k = some d) (hu : X.A.units + 1 < cLine) (hb : Ev X b env env1 (.d (keyD k))) (h0 : env[n]? = some (.o o0 φ0) := by rfl) (h1 : env1[n]? = some (.o o (Kf X.K kvs)) := by rfl) (hN : X.N[n]? = some x := by rfl)
    (hv : Vis X.env.scope x := by first | exact Or.inl rfl | exact Or.inr (Or.inl rfl) | exact Or.inr (Or.inr rfl)) (hd : (x == ("__debug__" : Str)) = false := by decide) (hcd : (x == ("__classdict__" : Str)) = false := by decide) (hs : NoSl b := by exact fun _ _ => rfl) :
    Ev X (.Subscript (.Name x p) b pos) env env1 (.d d) := fun β σ H H1 Q S q => by
  obtain ⟨l, u, hl, _⟩ := S.at h0
  refine teW.of (pe_dget hu (pe_var hN hv hd hcd) peW hs) ⟨.ref l, hl, hb β σ H H1 _ S fun v H' H2 S' ex R => ?_⟩
  obtain ⟨ys, hy, hdd⟩ := S'.atK h1 hl
  obtain ⟨w, hw, pw⟩ := hdd.look.1 d h
  have ev := dp_key R.d
  subst ev
  exact ⟨l, w, rfl, by rw [← hw]; exact DGet.k hy, (KR.of S' ex q).dd S'.ex pw⟩
/-- e[k] of a new dict -/
theorem ev_dgetE (h : lookD kvs k = some d) (hu : X.A.units + 1 < cLine) (ha : Ev X a env env1 (.o none (Kf X.K kvs))) (hb : Ev X b env1 env2 (.d (keyD k))) (hs : NoSl b := by exact fun _ _ => rfl) : Ev X (.Subscript a b pos) env env2 (.d d) := fun β σ H H1 Q S q =>
  teW.of (pe_dget hu peW peW hs) (ha β σ H H1 _ S fun v H' H2 S' ex R => by
    obtain ⟨l, u, rfl, _, h0, h1, m, hb1, hn⟩ := R.o
    refine hb (Bs.of σ H' H2 env1) σ H' H2 _ S'.self fun w Ha Hb T ea Ra => ?_
    have hl : Hb l = some u := T.keep l u (fun ⟨i, z⟩ => hn i z) h1
    obtain ⟨ys, rfl, hdd⟩ := m Ha ea
    obtain ⟨w', hw, pw⟩ := hdd.look.1 d h
    have ev := dp_key Ra.d
    subst ev
    have S2 := S'.back T
    exact ⟨l, w', rfl, by rw [← hw]; exact DGet.k hl, (KR.of S2 (ex.trans ea) q).dd S2.ex pw⟩)
theorem r1_dput (n : Nat) (hu : X.A.units + 1 < cLine) (hval : Ev X value env env1 (.d d)) (hb : Ev X b env1 env2 (.d (keyD k))) (h0 : env1[n]? = some (.o o0 φ0)) (h1 : env2[n]? = some (.o o (Kf X.K kvs))) (hlen : kvs.length < 100000) (hN : X.N[n]? = some x := by rfl)
    (hv : Vis X.env.scope x := by first | exact Or.inl rfl | exact Or.inr (Or.inl rfl) | exact Or.inr (Or.inr rfl)) (hd : (x == ("__debug__" : Str)) = false := by decide) (hcd : (x == ("__classdict__" : Str)) = false := by decide)
    (hsw : swapsWith value (some (.Subscript (.Name x p) b pos')) pos.line X.env = pure false := by rfl) :
    R1 X (.Assign [.Subscript (.Name x p) b pos'] value pos) env (.nx (env2.set n (.o o (Kf X.K (putD kvs k d))))) := fun β σ H H1 D hL S C => by
  refine tsW.of (ps_dput hu (pe_var hN hv hd hcd) peW peW hsw) (hval β σ H H1 _ S fun v H' H2 S' ex R => ?_)
  obtain ⟨l, u, hl, _⟩ := S'.at h0
  refine ⟨.ref l, hl, hb β σ H' H2 _ S' fun w Ha Hb Sa ea Ra => ?_⟩
  obtain ⟨ys, hy, hdd⟩ := Sa.atK h1 hl
  have ev := dp_key Ra.d
  subst ev
  exact ⟨l, _, rfl, DPut.k hy (by rw [hdd.len]; exact sz5l hlen), C σ Ha _ (Sa.mut h1 hl fun Hx exx => ⟨_, rfl, dka_ex exx (hdd.put (dp_ex ea R.d))⟩)⟩
theorem St.din {β : Bs} {σ : L2.St} {H H1 : Hp} {n : Nat} (S : St K β σ H H1 env) (h1 : env[n]? = some (.o o (Kf K kvs))) : ∃ l, σ[n]? = some (some (.ref l)) ∧ ∃ u, DGet H1 l (kV k) u ∧ u.isSome = (lookD kvs k).isSome := by
  obtain ⟨l, u, hl, _⟩ := S.at h1
  obtain ⟨ys, hy, hdd⟩ := S.atK h1 hl
  exact ⟨l, hl, _, DGet.k hy, hdd.look.2⟩
theorem et_din (n : Nat) (hu : X.A.units + 1 < cLine) (ha : Ev X a env env1 (.d (keyD k))) (h1 : env1[n]? = some (.o o (Kf X.K kvs)) := by rfl) (hN : X.N[n]? = some x := by rfl)
    (hv : Vis X.env.scope x := by first | exact Or.inl rfl | exact Or.inr (Or.inl rfl) | exact Or.inr (Or.inr rfl)) (hd : (x == ("__debug__" : Str)) = false := by decide) (hcd : (x == ("__classdict__" : Str)) = false := by decide) :
    Et X (.Compare a [.In] [.Name x p] pos) env env1 (lookD kvs k).isSome := fun β σ H H1 Q S q =>
  ttW.of (pt_cmp (pc_din hu peW (pe_var hN hv hd hcd))) (ha β σ H H1 _ S fun v H' H2 S' ex R => by
    obtain ⟨l, hl, u, hg, eu⟩ := S'.din (k := k) h1
    have ev := dp_key R.d
    subst ev
    exact ⟨.ref l, hl, l, u, rfl, hg, _, rfl, by rw [eu]; exact q H' H2 S'⟩)
theorem ev_dnin (n : Nat) (hu : X.A.units + 1 < cLine) (ha : Ev X a env env1 (.d (keyD k))) (h1 : env1[n]? = some (.o o (Kf X.K kvs)) := by rfl) (hN : X.N[n]? = some x := by rfl)
    (hv : Vis X.env.scope x := by first | exact Or.inl rfl | exact Or.inr (Or.inl rfl) | exact Or.inr (Or.inr rfl)) (hd : (x == ("__debug__" : Str)) = false := by decide) (hcd : (x == ("__classdict__" : Str)) = false := by decide) :
    Ev X (.Compare a [.NotIn] [.Name x p] pos) env env1 (.d (.bool (!(lookD kvs k).isSome))) := fun β σ H H1 Q S q =>
  teW.of (pe_cmp (pc_dnotin hu peW (pe_var hN hv hd hcd))) (ha β σ H H1 _ S fun v H' H2 S' ex R => by
    obtain ⟨l, hl, u, hg, eu⟩ := S'.din (k := k) h1
    have ev := dp_key R.d
    subst ev
    exact ⟨.ref l, hl, l, u, rfl, hg, by rw [eu]; exact q _ H' H2 S' ex (.dd (.bl _))⟩)
theorem ev_dlen (n : Nat) (hm : X.mg "len" = none) (h0 : env[n]? = some (.o o (Kf X.K kvs)) := by rfl) (hg : Gl X "len" := by rfl) (hN : X.N[n]? = some x := by rfl)
    (hv : Vis X.env.scope x := by first | exact Or.inl rfl | exact Or.inr (Or.inl rfl) | exact Or.inr (Or.inr rfl)) (hd : (x == ("__debug__" : Str)) = false := by decide) (hcd : (x == ("__classdict__" : Str)) = false := by decide)
    (hs : starEach [.Name x p] X.env = (false, eval (.Name x p) X.env) :: starEach [] X.env := by rfl) : Ev X (.Call (.Name "len" pos') [.Name x p] [] pos) env env (.d (.int kvs.length)) := fun β σ H H1 Q S q => by
  obtain ⟨l, u, hl, _⟩ := S.at h0
  obtain ⟨ys, hy, hdd⟩ := S.atK h0 hl
  exact teW.of (pe_callB call_lenD hg hm PySem.boot_len (pa_cons (pe_var hN hv hd hcd) pa_nil hs) (by decide) (by decide) hs rfl) ⟨.ref l, hl, l, ys, rfl, hy, by rw [hdd.len]; exact q _ H H1 S (Ex.refl H) (.dd (.int _))⟩
end
end Ol
set_option Elab.async false
set_option linter.all false
set_option maxRecDepth 100000
set_option maxHeartbeats 2000000
/-! OlOwn2: sums of lists, tuples; zips, sorts, dict(..), set, isinstance, texts. -/
namespace Ol
open PySem L2
open Evl (Ex Ex.refl Ex.trans Ex.new ex_l ex_t fresh_back sz_of sz_lt)
section
variable {X : Cx} {K : PySem.W.Frag} {env env1 env2 env3 env' : List Sd} {e a b c value : Expr} {es : List Expr} {p pos apos cpos pos' : Pos} {d d1 d2 : PyData} {r r1 r2 : Sd} {ds ds0 ds2 : List PyData} {i j : Int} {o o0 : Option Addr} {φ φ0 : HO → Hp → Prop} {x y : Str}
theorem twoR {R : V → V → Hp → Prop} {β : Bs} {σ : L2.St} {H H1 : Hp} (ha : Ev X a env env1 r1) (hb : Ev X b env1 env2 r2) (S : St X.K β σ H H1 env)
    (h : ∀ x y H' H2, St X.K β σ H' H2 env2 → Ex H H' → ResOk X.K β σ env2 H' H2 x r1 → ResOk X.K β σ env2 H' H2 y r2 → (∀ q a φ b ψ, x = .ref q → y = .ref q → r1 = .o a φ → r2 = .o b ψ → False) → R x y H2) : teW X a σ H1 fun x H2 => teW X b σ H2 fun y H3 => R x y H3 :=
  ha β σ H H1 _ S fun x Hb Ha S1 e1 p1 => hb (Bs.of σ Hb Ha env1) σ Hb Ha _ S1.self fun y Hc Hd T e2 p2 => by
    have S2 := S1.back T
    have keepO : ∀ a φ, r1 = .o a φ → ∀ q, x = .ref q → Hc q = none ∧ Hd q = Ha q ∧ Ha q ≠ none ∧ ∀ i, ¬ OwnAt σ env2 i q := fun a φ er q ex => by
      obtain ⟨q', u, e', _, h0, h1, _, hb, hn⟩ := ResOk.o (er ▸ p1)
      rw [ex] at e'
      cases e'
      refine ⟨T.off q h0 (some_ne h1), ?_, some_ne h1, fun i w => ?_⟩
      · rw [h1]; exact T.keep q u (fun ⟨i, w⟩ => hn i w) h1
      · rcases T.own i q w with ⟨j, w'⟩ | z
        · exact hn j w'
        · exact nomatch h1.symm.trans z
    refine h x y Hc Hd S2 (e1.trans e2) ⟨p1.ok.up e2 fun q u ho h0 h1 ex => ?_, fun a φ er q ex => ⟨(p1.new a φ er q ex).1, (keepO a φ er q ex).2.2.2⟩⟩ ⟨p2.ok, fun a φ er q ex => ⟨?_, (p2.new a φ er q ex).2⟩⟩ fun q a φ b ψ ex ey er es => (keepO a φ er q ex).2.2.1 (p2.new b ψ es q ey).1
    · cases r1 with
      | o a φ =>
        obtain ⟨k1, k2, _⟩ := keepO a φ rfl q (Option.some.inj ex)
        exact ⟨k1, by rw [k2]; exact h1⟩
      | u => exact ho.elim
      | d _ => exact ho.elim
      | c _ => exact ho.elim
    · rcases none_or (H := β.B1) (a := q) with z | ⟨u, z⟩
      · exact z
      · exact absurd (p2.new a φ er q ex).1 (S1.there q (some_ne z))
theorem ResOk.lst {β : Bs} {σ : L2.St} {H H1 : Hp} {v : V} (h : ResOk K β σ env H H1 v (.o o (Lf K ds))) : ∃ q ys, v = .ref q ∧ H1 q = some (.lst ys) ∧ DpAll K H ys ds := by
  obtain ⟨q, u, e, _, _, h1, m, _⟩ := h.o
  obtain ⟨ys, rfl, hd⟩ := m H (Ex.refl H)
  exact ⟨q, ys, e, h1, hd⟩
/-- xs + ys, both new -/
theorem ev_catl (hl : ds.length + ds2.length ≤ 100000) (ha : Ev X a env env1 (.o none (Lf X.K ds))) (hb : Ev X b env1 env2 (.o none (Lf X.K ds2))) : Ev X (.BinOp a .Add b pos) env env2 (.o none (Lf X.K (ds ++ ds2))) := fun β σ H H1 Q S q =>
  teW.of (pe_op op_cat peW peW) (twoR ha hb S fun v w H' H2 S' ex R1 R2 _ => by
    obtain ⟨q1, ys, rfl, h1, hd1⟩ := R1.lst
    obtain ⟨q2, zs, rfl, h2, hd2⟩ := R2.lst
    exact ⟨q1, q2, ys, zs, rfl, rfl, h1, h2, by rw [hd1.len, hd2.len]; exact sz5 hl, (KR.of S' ex q).newL S'.ex (hd1.app hd2)⟩)
/-- xs + ys, xs in a slot, ys new -/
theorem ev_catO (n : Nat) (hl : ds.length + ds2.length ≤ 100000) (hb : Ev X b env env1 (.o none (Lf X.K ds2))) (h0 : env[n]? = some (.o o0 φ0) := by rfl) (h1 : env1[n]? = some (.o o (Lf X.K ds)) := by rfl) (hN : X.N[n]? = some x := by rfl)
    (hv : Vis X.env.scope x := by first | exact Or.inl rfl | exact Or.inr (Or.inl rfl) | exact Or.inr (Or.inr rfl)) (hd : (x == ("__debug__" : Str)) = false := by decide) (hcd : (x == ("__classdict__" : Str)) = false := by decide) :
    Ev X (.BinOp (.Name x p) .Add b pos) env env1 (.o none (Lf X.K (ds ++ ds2))) := fun β σ H H1 Q S q => by
  obtain ⟨l, u, hl', _⟩ := S.at h0
  refine teW.of (pe_op op_cat (pe_var hN hv hd hcd) peW) ⟨.ref l, hl', hb β σ H H1 _ S fun w H' H2 S' ex R2 => ?_⟩
  obtain ⟨ys, hy, hd1⟩ := S'.atL h1 hl'
  obtain ⟨q2, zs, rfl, h2, hd2⟩ := R2.lst
  exact ⟨l, q2, ys, zs, rfl, rfl, hy, h2, by rw [hd1.len, hd2.len]; exact sz5 hl, (KR.of S' ex q).newL S'.ex (hd1.app hd2)⟩
theorem dpa_rep {H : Hp} {xs : List V} (h : DpAll K H xs ds) : ∀ n : Nat, DpAll K H (List.replicate n xs).flatten (List.replicate n ds).flatten
  | 0 => .nil
  | n + 1 => by
    rw [List.replicate_succ, List.replicate_succ, List.flatten_cons, List.flatten_cons]
    exact h.app (dpa_rep h n)
theorem ev_repl {n : Nat} (hn : n < 1000) (hl : ds.length * n ≤ 100000) (ha : Ev X a env env1 (.o none (Lf X.K ds))) (hb : Ev X b env1 env2 (.d (.int n))) : Ev X (.BinOp a .Mult b pos) env env2 (.o none (Lf X.K (List.replicate n ds).flatten)) := fun β σ H H1 Q S q =>
  teW.of (pe_op op_rep peW peW) (twoR ha hb S fun v w H' H2 S' ex R1 R2 _ => by
    obtain ⟨q1, ys, rfl, h1, hd1⟩ := R1.lst
    exact ⟨q1, n, ys, rfl, dp_int R2.d, h1, by omega, by omega, by rw [hd1.len]; exact sz5 hl, (KR.of S' ex q).newL S'.ex (dpa_rep hd1 n)⟩)
/-- t * 0, t * 1 -/
theorem ev_rep01 {bb : Bool} (hne : ds ≠ []) (ha : Ev X a env env1 (.d (.tuple ds))) (hb : Ev X b env1 env2 (.d (.int (b2n bb)))) : Ev X (.BinOp a .Mult b pos) env env2 (.d (.tuple (if bb = true then ds else []))) :=
  ev_op op_repT01 (fun H H1 v w Q ex h1 h2 k => by
    obtain ⟨l, xs, rfl, hs, hd⟩ := dp_tup h1
    refine ⟨l, b2n bb, xs, rfl, dp_int h2, ex_t ex hs, fun z => by subst z; cases hd; exact hne rfl, ?_⟩
    cases bb with
    | true => exact .inl ⟨rfl, k.dd ex h1⟩
    | false => exact .inr ⟨rfl, k.newT ex .nil⟩) ha hb
theorem op_catT0 : OpR X (binaryOp .Add) (fun u w H Q => ∃ l m xs, u = .ref l ∧ w = .ref m ∧ SqT X.K H l [] ∧ SqT X.K H m xs ∧ Q (.ref m) H) := by
  intro pins s σ H u w v z Q I ru rw' h
  obtain ⟨l, m, xs, rfl, rfl, hl, hm, q⟩ := h
  cases ru
  cases rw'
  obtain ⟨its, r1, ⟨⟨cls, dd, data, sl⟩, ho, hc, n, hd⟩, _⟩ := I.tuple hl
  obtain ⟨its2, r2, ⟨⟨cls2, dd2, data2, sl2⟩, ho2, hc2, n2, hd2⟩, _⟩ := I.tuple hm
  simp only at hc hd hc2 hd2
  subst hc hd hc2 hd2
  cases r1
  exact PySem.concat_meets ⟨_, ho, rfl⟩ ⟨_, ho2, rfl⟩ PySem.noFill_tuple_add PySem.seq_tuple_add PySem.F.slot_tuple_add PySem.F.entry_tuple_add (PySem.F.args_tuple_add_2 _ _) (PyProof.Rows.tuple_addW0 l m _ _ n n2 dd dd2 sl sl2 rfl) ⟨ho, ho2, .ref m, H, I, rfl, q⟩
theorem ev_catt (hl : ds.length + ds2.length ≤ 100000) (ha : Ev X a env env1 (.d (.tuple ds))) (hb : Ev X b env1 env2 (.d (.tuple ds2))) : Ev X (.BinOp a .Add b pos) env env2 (.d (.tuple (ds ++ ds2))) :=
  ev_op (op_catT0.or op_catT) (fun H H1 v w Q ex h1 h2 k => by
    obtain ⟨l, xs, rfl, hs, hd⟩ := dp_tup h1
    obtain ⟨m, ys, rfl, hs2, hd2⟩ := dp_tup h2
    cases hd with
    | nil => exact .inl ⟨l, m, ys, rfl, rfl, ex_t ex hs, ex_t ex hs2, k.dd ex h2⟩
    | @cons v0 vs0 d0 ds0 p0 t0 =>
      refine .inr ⟨l, m, _, ys, rfl, rfl, ex_t ex hs, ex_t ex hs2, (fun z => by cases z), by rw [hd2.len, (DpAll.cons p0 t0).len]; exact sz5 hl, fun z => ?_, fun _ => k.newT ex ((DpAll.cons p0 t0).app hd2)⟩
      subst z
      cases hd2
      rw [List.append_nil] at k
      exact k.dd ex h1) ha hb

/-! ### zips -/
theorem up_putL {H H1 : Hp} (ex : Ex H H1) : ∀ (L : List (Addr × List V)), (∀ t ∈ L, H1 t.1 = none) → (L.map (·.1)).Nodup → Up H H1 (putL H L) (putL H1 L) := by
  intro L
  induction L generalizing H H1 with
  | nil => intro _ _; exact Up.refl ex
  | cons t L ih =>
    intro h nd
    rw [List.map_cons, List.nodup_cons] at nd
    have u := Up.new (o := .tup t.2) ex (h t (List.mem_cons_self ..))
    exact u.trans (ih u.of (fun q hq => by
      rw [upd_ne (show q.1 ≠ t.1 from fun z => nd.1 (by rw [← z]; exact List.mem_map.mpr ⟨q, hq, rfl⟩))]
      exact h q (List.mem_cons_of_mem _ hq)) nd.2)
def Two (K : PySem.W.Frag) (H : Hp) (l : List V) (d : PyData) : Prop := ∃ ds, d = .tuple ds ∧ DpAll K H l ds
theorem dpa_refs {H : Hp} {L : List (Addr × List V)} {ds : List PyData} (nd : (L.map (·.1)).Nodup) (fr : ∀ t ∈ L, H t.1 = none) (h : Paired (Two K H) (L.map (·.2)) ds) : DpAll K (putL H L) (refsOf L) ds := by
  have ex : Ex H (putL H L) := fun a u e => putL_ex L H fr nd a u e
  have at_ := putL_at L H nd
  have gen : ∀ (M : List (Addr × List V)) (ms : List PyData), (∀ t ∈ M, t ∈ L) → Paired (Two K H) (M.map (·.2)) ms → DpAll K (putL H L) (refsOf M) ms := by
    intro M
    induction M with
    | nil => intro ms _ h; cases h; exact .nil
    | cons t M ih =>
      intro ms hm h
      cases h with
      | cons h1 h2 =>
        obtain ⟨es, rfl, hd⟩ := h1
        exact .cons (.tup (SqT.of (at_ t (hm t (List.mem_cons_self ..)))) (dpa_ex ex hd)) (ih _ (fun q hq => hm q (List.mem_cons_of_mem _ hq)) h2)
  exact gen L ds (fun _ h => h) h
theorem pairs_zip {H : Hp} : ∀ {xs ys : List V} {ds ds2 : List PyData}, DpAll K H xs ds → DpAll K H ys ds2 → Paired (Two K H) (zip2 xs ys) (zipD ds ds2)
  | [], _, _, _, .nil, _ => .nil
  | _ :: _, [], _, _, .cons _ _, .nil => .nil
  | _ :: _, _ :: _, _, _, .cons h1 t1, .cons h2 t2 => .cons ⟨_, rfl, .cons h1 (.cons h2 .nil)⟩ (pairs_zip t1 t2)
/-- zip(..) of two lists' data -/
def Ez (X : Cx) (e : Expr) (env env' : List Sd) (ds ds2 : List PyData) : Prop := ∃ ta : TA, PZp X e ta ∧ ∀ β σ H H1 (Q : List V → Hp → Prop), St X.K β σ H H1 env → (∀ vs H' H2, St X.K β σ H' H2 env' → Ex H H' → DpAll X.K H' vs [.list ds, .list ds2] → Q vs H2) → ta σ H1 Q
theorem ez_zip {e2 : Expr} (hm : X.mg "zip" = none) (h : Ed X [e, e2] env env' [.list ds, .list ds2]) (hg : Gl X "zip" := by rfl) (hs : starEach [e, e2] X.env = (false, eval e X.env) :: starEach [e2] X.env := by rfl) (hpl : (backTo pos (starEach [e2] X.env)).any (·.1) = false := by rfl) :
    Ez X (.Call (.Name "zip" p) [e, e2] [] pos) env env' ds ds2 := ⟨_, pz_zip hg hm paW hs hpl, fun β σ H H1 Q S q => h β σ H H1 Q S q⟩
theorem two_lists {H H1 : Hp} {vs : List V} (ex : Ex H H1) (h : DpAll K H vs [.list ds, .list ds2]) : ∃ l m xs ys, vs = [.ref l, .ref m] ∧ SqL K H1 l xs ∧ SqL K H1 m ys ∧ DpAll K H xs ds ∧ DpAll K H ys ds2 := by
  obtain ⟨v, w, rfl, hv, hw⟩ := dpa2 h
  obtain ⟨l, xs, rfl, hs, hd⟩ := dp_lst hv
  obtain ⟨m, ys, rfl, hs2, hd2⟩ := dp_lst hw
  exact ⟨l, m, xs, ys, rfl, ex_l ex hs, ex_l ex hs2, hd, hd2⟩
theorem ev_tupZ (hm : X.mg "tuple" = none) (h : Ez X e env env' ds ds2) (hg : Gl X "tuple" := by rfl) (hc : X.calm = true := by rfl) (na : starEach [e] X.env = (false, eval e X.env) :: starEach [] X.env := by rfl) : Ev X (.Call (.Name "tuple" p) [e] [] pos) env env' (.d (.tuple (zipD ds ds2))) := fun β σ H H1 Q S q => by
  obtain ⟨ta, hz, hq⟩ := h
  refine teW.of (pe_tupZ hc hg hm hz na) (hq β σ H H1 _ S fun vs H' H2 S' ex pd => ?_)
  obtain ⟨l, m, xs, ys, rfl, hs, hs2, hd, hd2⟩ := two_lists S'.ex pd
  refine ⟨l, m, xs, ys, rfl, hs, hs2, fun L t N eL => ?_⟩
  have nd := N.nd
  rw [List.nodup_cons] at nd
  have u1 := up_putL S'.ex L N.ft nd.2
  have ht : putL H2 L t = none := by rw [putL_off L H2 nd.1]; exact N.fl
  have u2 := u1.trans (Up.new (o := .tup (refsOf L)) u1.of ht)
  have fr : ∀ t ∈ L, H' t.1 = none := fun t h => fresh_back S'.ex (N.ft t h)
  have dr := dpa_refs (K := X.K) nd.2 fr (by rw [eL]; exact pairs_zip hd hd2)
  exact KR.of S' ex q _ _ _ u2 (.d (.tup (SqT.of upd_same) (dpa_ex (Ex.new (fresh_back u1.of ht)) dr)))
def pairD (q : Str × PyData) : PyData := .tuple [.str q.1, q.2]
abbrev Pr (K : PySem.W.Frag) (H : Hp) : Str × V → Str × PyData → Prop := fun u w => u.1 = w.1 ∧ Dp K H u.2 w.2
theorem paired_two {H : Hp} : ∀ {out : List (Addr × Str × V)} {ks : List (Str × PyData)}, Paired (Pr K H) (out.map (·.2)) ks → Paired (Two K H) ((out.map pr2).map (·.2)) (ks.map pairD)
  | [], _, .nil => .nil
  | t :: out, _, .cons h tl => .cons ⟨_, rfl, .cons (by rw [← h.1]; exact .str _) (.cons h.2 .nil)⟩ (paired_two tl)
/-- a new list of new pairs, by their texts -/
theorem sorted_pairs {β : Bs} {σ : L2.St} {H0 H H1 : Hp} {Q : VK} {kx : List (Str × V)} {ks : List (Str × PyData)} {out : List (Addr × Str × V)} {l : Addr} (S : St X.K β σ H H1 env') (ex : Ex H0 H) (hk : Paired (Pr X.K H) kx ks) (nd : (kx.map (·.1)).Nodup)
    (N : PairsNew H1 l out) (pm : (out.map (fun t => t.2)).Perm kx) (so : SortedTx (out.map (fun t => t.2)))
    (q : ∀ v H' H2, St X.K β σ H' H2 env' → Ex H0 H' → ResOk X.K β σ env' H' H2 v (.o none (Lf X.K ((srt (·.1) ks).map pairD))) → Q v H2) : Q (.ref l) (newPairs H1 l out) := by
  have e1 : out.map (fun t => t.2) = srt (fun q : Str × V => q.1) kx := srt_unique (fun q : Str × V => q.1) pm so (nodup_inj (fun q : Str × V => q.1) nd)
  have pr : Paired (Pr X.K H) (out.map (·.2)) (srt (·.1) ks) := by rw [e1]; exact srt_rel (fun u w h => h.1) hk
  have nl := N.newL
  have nd2 := nl.nd
  rw [List.nodup_cons] at nd2
  have u1 := up_putL S.ex (out.map pr2) nl.ft nd2.2
  have hl : putL H1 (out.map pr2) l = none := by rw [putL_off _ _ nd2.1]; exact nl.fl
  have fr : ∀ t ∈ out.map pr2, H t.1 = none := fun t h => fresh_back S.ex (nl.ft t h)
  have dr := dpa_refs (K := X.K) nd2.2 fr (paired_two pr)
  have er : refsOf (out.map pr2) = out.map fun t => V.ref t.1 := by unfold refsOf; rw [List.map_map]; rfl
  rw [er] at dr
  have S2 := S.up u1
  exact (KR.of (r := .o none (Lf X.K ((srt (·.1) ks).map pairD))) S2 (ex.trans u1.ex) q).newL S2.ex dr l hl
theorem ev_srtZ {ns : List Str} (hm : X.mg "sorted" = none) (nd : ns.Nodup) (hl : ns.length = ds2.length) (h : Ez X e env env' (ns.map .str) ds2) (hg : Gl X "sorted" := by rfl) (hc : X.calm = true := by rfl) (na : starEach [e] X.env = (false, eval e X.env) :: starEach [] X.env := by rfl) :
    Ev X (.Call (.Name "sorted" p) [e] [] pos) env env' (.o none (Lf X.K ((srt (·.1) (ns.zip ds2)).map pairD))) := fun β σ H H1 Q S q => by
  obtain ⟨ta, hz, hq⟩ := h
  refine teW.of (pe_srtZ hc hg hm hz na) (hq β σ H H1 _ S fun vs H' H2 S' ex pd => ?_)
  obtain ⟨l, m, xs, ys, rfl, hs, hs2, hd, hd2⟩ := two_lists S'.ex pd
  have := hd.strs
  subst this
  have hp : ∀ {ns : List Str} {ys : List V} {ds2 : List PyData}, DpAll X.K H' ys ds2 → Paired (Pr X.K H') (ns.zip ys) (ns.zip ds2) := by
    intro ns
    induction ns with
    | nil => intro ys ds2 _; exact .nil
    | cons n ns ih =>
      intro ys ds2 h
      cases h with
      | nil => exact .nil
      | cons h t => exact .cons ⟨rfl, h⟩ (ih t)
  exact ⟨l, m, _, ys, rfl, hs, hs2, ns, rfl, nd, by rw [hl, hd2.len], fun out t N pm so => sorted_pairs S' ex (hp hd2) (by rw [List.map_fst_zip (by rw [hd2.len, hl]; exact Nat.le_refl _)]; exact nd) N pm so q⟩
def kvT (ks : List (Str × PyData)) : List (L2.Key × PyData) := ks.map fun q => (Sum.inr q.1, q.2)
theorem dka_kvT {H : Hp} : ∀ {ys : List (L2.Key × V)} {ks : List (Str × PyData)}, DkAll K H ys (kvT ks) → ∃ kx : List (Str × V), ys = kx.map (fun q => (Sum.inr q.1, q.2)) ∧ Paired (Pr K H) kx ks
  | [], [], _ => ⟨[], rfl, .nil⟩
  | u :: ys, w :: ks, h => by
    cases h with
    | cons h t =>
      obtain ⟨kx, e1, e2⟩ := dka_kvT (ks := ks) t
      refine ⟨(w.1, u.2) :: kx, ?_, .cons ⟨rfl, h.2⟩ e2⟩
      rw [List.map_cons, ← e1]
      obtain ⟨u1, u2⟩ := u
      have : u1 = Sum.inr w.1 := h.1
      rw [this]
  | [], _ :: _, h => by cases h
  | _ :: _, [], h => by cases h
theorem paired_keys {H : Hp} : ∀ {kx : List (Str × V)} {ks : List (Str × PyData)}, Paired (Pr K H) kx ks → kx.map (·.1) = ks.map (·.1)
  | _, _, .nil => rfl
  | _, _, .cons h t => by rw [List.map_cons, List.map_cons, h.1, paired_keys t]
/-- sorted(d.items()), d in a slot, its keys texts -/
theorem ev_srtI (n : Nat) {ks : List (Str × PyData)} (hm : X.mg "sorted" = none) (nd : (ks.map (·.1)).Nodup) (h0 : env[n]? = some (.o o (Kf X.K (kvT ks))) := by rfl) (hg : Gl X "sorted" := by rfl) (hc : X.calm = true := by rfl) (hN : X.N[n]? = some x := by rfl)
    (hv : Vis X.env.scope x := by first | exact Or.inl rfl | exact Or.inr (Or.inl rfl) | exact Or.inr (Or.inr rfl)) (hd : (x == ("__debug__" : Str)) = false := by decide) (hcd : (x == ("__classdict__" : Str)) = false := by decide)
    (hbase : attributeBase (.Name x pos') "items" X.env (eval (.Name x pos') X.env) = eval (.Name x pos') X.env := by rfl) (hline : (apos.endLine == cpos.line) = true := by rfl)
    (hs : starEach [.Call (.Attribute (.Name x pos') "items" apos) [] [] cpos] X.env = (false, eval (.Call (.Attribute (.Name x pos') "items" apos) [] [] cpos) X.env) :: starEach [] X.env := by rfl) :
    Ev X (.Call (.Name "sorted" p) [.Call (.Attribute (.Name x pos') "items" apos) [] [] cpos] [] pos) env env (.o none (Lf X.K ((srt (·.1) ks).map pairD))) := fun β σ H H1 Q S q => by
  obtain ⟨l, u, hl, _⟩ := S.at h0
  obtain ⟨ys, hy, hdd⟩ := S.atK h0 hl
  obtain ⟨kx, rfl, pk⟩ := dka_kvT hdd
  exact teW.of (pe_srtItems hc (pe_var hN hv hd hcd) hg hm hbase hline hs) ⟨.ref l, hl, l, kx, rfl, hy, by rw [paired_keys pk]; exact nd, fun out t N pm so => sorted_pairs S (Ex.refl H) pk (by rw [paired_keys pk]; exact nd) N pm so q⟩
def mergeD (kvs : List (L2.Key × PyData)) : List (L2.Key × PyData) := kvs.foldl (fun acc q => putD acc q.1 q.2) []
theorem ev_dicZ {ns : List Str} (hm : X.mg "dict" = none) (hl : ns.length = ds2.length) (h : Ez X e env env' (ns.map .str) ds2) (hg : Gl X "dict" := by rfl) (hc : X.calm = true := by rfl) (na : starEach [e] X.env = (false, eval e X.env) :: starEach [] X.env := by rfl) :
    Ev X (.Call (.Name "dict" p) [e] [] pos) env env' (.o none (Kf X.K (mergeD (kvT (ns.zip ds2))))) := fun β σ H H1 Q S q => by
  obtain ⟨ta, hz, hq⟩ := h
  refine teW.of (pe_dicZ hc hg hm boot_dict' hz na) (hq β σ H H1 _ S fun vs H' H2 S' ex pd => ?_)
  obtain ⟨l, m, xs, ys, rfl, hs, hs2, hd, hd2⟩ := two_lists S'.ex pd
  have := hd.strs
  subst this
  have hp : ∀ {ns : List Str} {ys : List V} {ds2 : List PyData}, DpAll X.K H' ys ds2 → DkAll X.K H' ((ns.map Sum.inr).zip ys) (kvT (ns.zip ds2)) := by
    intro ns
    induction ns with
    | nil => intro ys ds2 _; exact .nil
    | cons n ns ih =>
      intro ys ds2 h
      cases h with
      | nil => exact .nil
      | cons h t => exact .cons ⟨rfl, h⟩ (ih t)
  refine ⟨l, m, _, ys, rfl, hs, hs2, ns, rfl, by rw [hl, hd2.len], (KR.of S' ex q).newO S'.ex fun Hx exx => ⟨_, rfl, DkAll.merge (dka_ex exx (hp hd2)) .nil⟩⟩
def pairK (q : L2.Key × PyData) : PyData := .tuple [keyD q.1, q.2]
theorem dpa_pairs {H : Hp} : ∀ {ys : List V} {kvs : List (L2.Key × PyData)}, DpAll K H ys (kvs.map pairK) → ∃ (ps : List Addr) (ks : List (L2.Key × V)), ys = ps.map V.ref ∧ Paired (fun p kv => SqT K H p [kV kv.1, kv.2]) ps ks ∧ DkAll K H ks kvs
  | [], [], _ => ⟨[], [], rfl, .nil, .nil⟩
  | y :: ys, w :: kvs, h => by
    cases h with
    | cons h t =>
      obtain ⟨ps, ks, e1, e2, e3⟩ := dpa_pairs (kvs := kvs) t
      obtain ⟨q, xs, rfl, hs, hd⟩ := dp_tup h
      obtain ⟨v1, v2, rfl, p1, p2⟩ := dpa2 hd
      rw [dp_key p1] at hs
      exact ⟨q :: ps, (w.1, v2) :: ks, by rw [e1]; rfl, .cons hs e2, .cons ⟨rfl, p2⟩ e3⟩
  | [], _ :: _, h => by cases h
  | _ :: _, [], h => by cases h
/-- dict(t), t a tuple of pairs made by tuple(list) -/
theorem ev_dicT {kvs : List (L2.Key × PyData)} (hm : X.mg "dict" = none) (h : Ev X e env env' (.c (TfP X.K (kvs.map pairK)))) (hg : Gl X "dict" := by rfl) (hc : X.calm = true := by rfl) (he : starEach [e] X.env = (false, eval e X.env) :: starEach [] X.env := by rfl) :
    Ev X (.Call (.Name "dict" p) [e] [] pos) env env' (.o none (Kf X.K (mergeD kvs))) := fun β σ H H1 Q S q =>
  teW.of (pe_callTy (call_dictT hc) hg hm boot_dict' (pa_cons peW pa_nil he) (by decide) (by decide) he rfl) (h β σ H H1 _ S fun v H' H2 S' ex R => by
    obtain ⟨l, u, ev, hl, m⟩ := R.ok
    cases ev
    obtain ⟨ob, ys, rfl, hpl, hd⟩ := m H' (Ex.refl H')
    obtain ⟨ps, ks, rfl, hps, hks⟩ := dpa_pairs hd
    refine ⟨l, ob, ps, ks, rfl, S'.ex _ _ hl, hpl, ?_, (KR.of S' ex q).newO S'.ex fun Hx exx => ⟨_, rfl, DkAll.merge (dka_ex exx hks) .nil⟩⟩
    exact Paired.mapP hps fun _ _ z => ex_t S'.ex z)

/-! ### sorts -/
theorem ev_srtS {ns : List Str} (hn : ns.length < 64) (hm : X.mg "sorted" = none) (h : Ed X [e] env env' [.list (ns.map .str)]) (hg : Gl X "sorted" := by rfl) (he : starEach [e] X.env = (false, eval e X.env) :: starEach [] X.env := by rfl) : Ev X (.Call (.Name "sorted" p) [e] [] pos) env env' (.o none (Lf X.K ((srtS ns).map .str))) :=
  ev_cb cr_sortedS (fun H H1 vs Q ex h k => by
    obtain ⟨v, rfl, hv⟩ := dpa1 h
    obtain ⟨q, xs, rfl, hs, hd⟩ := dp_lst hv
    have := hd.strs; subst this
    refine ⟨q, ns, rfl, ex_l ex hs, hn, fun ys t pm so ht => ?_⟩
    have e1 : ys = srtS ns := srt_unique id pm (rise_of_sortedS so) fun _ _ _ _ z => z
    subst e1
    exact k.newL ex (dpa_strs _) t ht) hm h hg boot_sorted' (by decide) (by decide) he rfl
theorem ev_srt1 (hn : ds.length ≤ 1) (hm : X.mg "sorted" = none) (h : Ed X [e] env env' [.list ds]) (hg : Gl X "sorted" := by rfl) (he : starEach [e] X.env = (false, eval e X.env) :: starEach [] X.env := by rfl) : Ev X (.Call (.Name "sorted" p) [e] [] pos) env env' (.o none (Lf X.K ds)) :=
  ev_cb cr_sorted1 (fun H H1 vs Q ex h k => by
    obtain ⟨v, rfl, hv⟩ := dpa1 h
    obtain ⟨q, xs, rfl, hs, hd⟩ := dp_lst hv
    exact ⟨q, xs, rfl, ex_l ex hs, by rw [hd.len]; exact hn, k.newL ex hd⟩) hm h hg boot_sorted' (by decide) (by decide) he rfl
/-- sorted(set(t)), t a tuple of ints -/
theorem ev_srtSet {ns : List Int} (hn : ns.length < 64) (hm : X.mg "sorted" = none) (hm2 : X.mg "set" = none) (h : Ev X e env env' (.d (.tuple (ns.map .int)))) (hg : Gl X "sorted" := by rfl) (hg2 : Gl X "set" := by rfl) (hc : X.calm = true := by rfl)
    (he : starEach [e] X.env = (false, eval e X.env) :: starEach [] X.env := by rfl) (he2 : starEach [.Call (.Name "set" pos') [e] [] cpos] X.env = (false, eval (.Call (.Name "set" pos') [e] [] cpos) X.env) :: starEach [] X.env := by rfl) :
    Ev X (.Call (.Name "sorted" p) [.Call (.Name "set" pos') [e] [] cpos] [] pos) env env' (.o none (Lf X.K ((setI ns).map .int))) := fun β σ H H1 Q S q =>
  teW.of (pe_callB (cr_sortedSet hc) hg hm boot_sorted' (pa_cons (pe_callTy (call_setT hc) hg2 hm2 boot_set' (pa_cons peW pa_nil he) (by decide) (by decide) he rfl) pa_nil he2) (by decide) (by decide) he2 rfl) (h β σ H H1 _ S fun v H' H2 S' ex R => by
    obtain ⟨t, xs, rfl, hs, hd⟩ := dp_tup R.d
    have := hd.ints; subst this
    refine ⟨t, ns, rfl, ex_t S'.ex hs, by omega, fun l c hcn hl => ⟨l, _, c, rfl, upd_same, by omega, fun ms m so mem _ hm' => ?_⟩⟩
    have e1 : ms = setI ns := setI_unique so fun x => by rw [mem x]; exact decide_eq_true_iff
    subst e1
    have u := Up.newM (p := l) (o := SetO X.w l (fun j => decide (j ∈ ns)) c) S'.ex hl
    have S2 := S'.up u
    exact (KR.of S2 ex q).newL S2.ex (dpa_ints _) m hm')

/-! ### texts -/
theorem ev_split {z w : Str} (hw : (w.length == 0) = false) (hz : z.length ≤ 90000) (ha : Ev X a env env1 (.d (.str z))) (hb : Ev X b env1 env2 (.d (.str w))) (hs : starEach [b] X.env = [(false, eval b X.env)] := by rfl) (hbase : attributeBase a "split" X.env (eval a X.env) = eval a X.env := by rfl) (hline : (apos.endLine == pos.line) = true := by rfl) :
    Ev X (.Call (.Attribute a "split" apos) [b] [] pos) env env2 (.o none (Lf X.K ((Txt.split z w).map .str))) := fun β σ H H1 Q S q =>
  teW.of (pe_split peW peW hs hbase hline) (ha β σ H H1 _ S fun v Ha Hb Sa ea Ra => ⟨⟨z, dp_str Ra.d⟩, hb β σ Ha Hb _ Sa fun u Hc Hd Sc ec Rc => ⟨z, w, dp_str Ra.d, by rw [dp_str Rc.d], hw, sz5 (n := z.length + 2) (by omega), (KR.of Sc (ea.trans ec) q).newL Sc.ex (dpa_strs _)⟩⟩)
theorem ev_join {z : Str} {ns : List Str} (hz : (ns.map (·.length)).sum + ns.length * z.length ≤ 16777216) (ha : Ev X a env env1 (.d (.str z))) (hb : Ev X b env1 env2 (.d (.list (ns.map .str)))) (hs : starEach [b] X.env = [(false, eval b X.env)] := by rfl) (hbase : attributeBase a "join" X.env (eval a X.env) = eval a X.env := by rfl) (hline : (apos.endLine == pos.line) = true := by rfl) :
    Ev X (.Call (.Attribute a "join" apos) [b] [] pos) env env2 (.d (.str (Txt.join z ns))) := fun β σ H H1 Q S q =>
  teW.of (pe_join peW peW hs hbase hline) (ha β σ H H1 _ S fun v Ha Hb Sa ea Ra => ⟨⟨z, dp_str Ra.d⟩, hb β σ Ha Hb _ Sa fun u Hc Hd Sc ec Rc => by
    obtain ⟨l, xs, rfl, hs, hd⟩ := dp_lst Rc.d
    have := hd.strs; subst this
    exact ⟨z, l, ns, dp_str Ra.d, rfl, .inl (ex_l Sc.ex hs), hz, (KR.of Sc (ea.trans ec) q).dd Sc.ex (.str _)⟩⟩)

/-! ### isinstance -/
def tyD : PyData → String
  | .none => "NoneType"
  | .bool _ => "bool"
  | .int _ => "int"
  | .str _ => "str"
  | .list _ => "list"
  | .tuple _ => "tuple"
  | .dict _ => "dict"
theorem tyx_of {H H1 : Hp} {v : V} (ex : Ex H H1) (h : Dp K H v d) : TyX K H1 v (.type (tyD d)) := by
  cases h with
  | non => exact .base .non
  | bl b => exact .base (.bl b)
  | int i => exact .base (.int i)
  | str z => exact .base (.str z)
  | lst hs _ =>
    rcases ex_l ex hs with (h | ⟨u, h⟩) | ⟨u, its, n, h, hc, _⟩
    · exact .base (.lst h)
    · exact .base (.frz h)
    · exact .kList h hc
  | tup hs _ =>
    rcases ex_t ex hs with (h | ⟨u, h⟩) | ⟨u, its, n, h, hc, _⟩
    · exact .base (.tup h)
    · exact .fTuple h
    · exact .kTuple h hc
theorem boot_isi' : bootBuiltins "isinstance" = some (.builtin "isinstance") := by decide +kernel
theorem ev_isi {T : Str} {tn : String} {pt : Pos} {bb : Bool} (hm : X.mg "isinstance" = none) (hT : X.mg T = none) (hb : bootBuiltins T = some (.type tn)) (ha : Ev X a env env1 (.d d)) (hk : kitB (tyD d) tn = some bb) (hg : Gl X "isinstance" := by rfl) (hgT : Gl X T := by rfl) (hTn : T ≠ "__name__" := by decide) (hTd : (T == ("__debug__" : Str)) = false := by decide)
    (hs : starEach [a, .Name T pt] X.env = (false, eval a X.env) :: starEach [.Name T pt] X.env := by rfl) (hs2 : starEach [.Name T pt] X.env = (false, eval (.Name T pt) X.env) :: starEach [] X.env := by rfl) (hpl : (backTo pos (starEach [.Name T pt] X.env)).any (·.1) = false := by rfl) :
    Ev X (.Call (.Name "isinstance" p) [a, .Name T pt] [] pos) env env1 (.d (.bool bb)) := fun β σ H H1 Q S q =>
  teW.of (pe_callB call_isi hg hm boot_isi' (pa_cons peW (pa_cons (pe_bltn (v := .ty tn) hgT hT hb rfl hTn hTd) pa_nil hs2) hs) (by decide) (by decide) hs hpl) (ha β σ H H1 _ S fun v H' H2 S' ex R =>
    ⟨v, .ty tn, _, _, bb, rfl, .ty tn, tyx_of S'.ex R.d, kit_ty hk, (KR.of S' ex q).dd S'.ex (.bl _)⟩)
theorem ev_isi2 {T U : Str} {tn un : String} {pt pu pd : Pos} {kk : Nat} {b1 b2 : Bool} (hm : X.mg "isinstance" = none) (hT : X.mg T = none) (hU : X.mg U = none) (hb : bootBuiltins T = some (.type tn)) (hbU : bootBuiltins U = some (.type un)) (ha : Ev X a env env1 (.d d)) (hk : kitB (tyD d) tn = some b1) (hk2 : kitB (tyD d) un = some b2)
    (hg : Gl X "isinstance" := by rfl) (hgT : Gl X T := by rfl) (hgU : Gl X U := by rfl) (hTn : T ≠ "__name__" := by decide) (hTd : (T == ("__debug__" : Str)) = false := by decide) (hUn : U ≠ "__name__" := by decide) (hUd : (U == ("__debug__" : Str)) = false := by decide)
    (hs : starEach [a, .Tuple [.Name T pt, .Name U pu] kk pd] X.env = (false, eval a X.env) :: starEach [.Tuple [.Name T pt, .Name U pu] kk pd] X.env := by rfl) (hs2 : starEach [.Tuple [.Name T pt, .Name U pu] kk pd] X.env = (false, eval (.Tuple [.Name T pt, .Name U pu] kk pd) X.env) :: starEach [] X.env := by rfl)
    (hs3 : starEach [.Name T pt, .Name U pu] X.env = (false, eval (.Name T pt) X.env) :: starEach [.Name U pu] X.env := by rfl) (hs4 : starEach [.Name U pu] X.env = (false, eval (.Name U pu) X.env) :: starEach [] X.env := by rfl) (hpl : (backTo pos (starEach [.Tuple [.Name T pt, .Name U pu] kk pd] X.env)).any (·.1) = false := by rfl) :
    Ev X (.Call (.Name "isinstance" p) [a, .Tuple [.Name T pt, .Name U pu] kk pd] [] pos) env env1 (.d (.bool (b1 || b2))) := fun β σ H H1 Q S q =>
  teW.of (pe_callB call_isiT hg hm boot_isi' (pa_cons peW (pa_cons (pe_tup (pa_cons (pe_bltn (v := .ty tn) hgT hT hb rfl hTn hTd) (pa_cons (pe_bltn (v := .ty un) hgU hU hbU rfl hUn hUd) pa_nil hs4) hs3)) pa_nil hs2) hs) (by decide) (by decide) hs hpl) (ha β σ H H1 _ S fun v H' H2 S' ex R =>
    ⟨sz5 (n := 2) (by decide), fun t ht => by
      have u := Up.newM (p := t) (o := .tup [.ty tn, .ty un]) S'.ex ht
      have S2 := S'.up u
      refine ⟨v, t, _, _, [.type tn, .type un], b1 || b2, rfl, upd_same, .cons (.ty tn) (.cons (.ty un) .nil), tyx_of S2.ex R.d, ?_, (KR.of S2 ex q).dd S2.ex (.bl _)⟩
      refine kitAny_cons (kit_ty hk) (fun h => ?_) (fun h => by rw [h]; rfl)
      rw [h]
      exact kitAny_cons (kit_ty hk2) (fun h2 => by rw [h2]; exact kitAny_nil) (fun h2 => by rw [h2]; rfl)⟩)
end
end Ol
set_option Elab.async false
set_option linter.all false
/-! OlDue: what is due as a dict's content; books. -/
namespace Ol
open PySem L2
def numP (q : Str × Int) : PyData := .tuple [.str q.1, .int q.2]
def dueP (bs : List Str) (d : Str → Int) : List (Str × PyData) := bs.map fun b => (b, .int (d b))
def dueK (bs : List Str) (d : Str → Int) : List (L2.Key × PyData) := kvT (dueP bs d)
def dueD (bs : List Str) (d : Str → Int) : List PyData := bs.map fun b => numP (b, d b)
theorem dueK_eq (bs : List Str) (d : Str → Int) : dueK bs d = bs.map fun b => (Sum.inr b, .int (d b)) := by
  unfold dueK dueP kvT; rw [List.map_map]; rfl
theorem dueK_len {bs : List Str} {d : Str → Int} : (dueK bs d).length = bs.length := by rw [dueK_eq, List.length_map]
theorem dueP_keys (bs : List Str) (d : Str → Int) : (dueP bs d).map (·.1) = bs := by
  unfold dueP; rw [List.map_map]; exact (List.map_congr_left fun _ _ => rfl).trans (List.map_id _)
theorem look_due : ∀ {bs : List Str} {d : Str → Int} {b : Str}, b ∈ bs → lookD (dueK bs d) (Sum.inr b) = some (.int (d b))
  | c :: bs, d, b, h => by
    rw [dueK_eq]
    by_cases e : c = b
    · subst e; simp [lookD]
    · have hb : b ∈ bs := by rcases List.mem_cons.mp h with z | z; exact absurd z.symm e; exact z
      have ih := look_due (bs := bs) (d := d) hb
      rw [dueK_eq] at ih
      have e' : ¬ (Sum.inr c : L2.Key) = Sum.inr b := fun z => e (Sum.inr.inj z)
      unfold lookD at ih ⊢
      rw [List.map_cons, List.find?_cons, decide_eq_false e']
      exact ih
theorem put_due {bs : List Str} {d : Str → Int} {b : Str} {v : Int} (h : b ∈ bs) : putD (dueK bs d) (Sum.inr b) (.int v) = dueK bs (put d b v) := by
  have ha : ((dueK bs d).any fun q => decide (q.1 = Sum.inr b)) = true := by
    rw [dueK_eq, List.any_map, List.any_eq_true]
    exact ⟨b, h, decide_eq_true rfl⟩
  unfold putD
  rw [if_pos ha, dueK_eq, dueK_eq, List.map_map]
  refine List.map_congr_left fun c _ => ?_
  show (if (Sum.inr c : L2.Key) = Sum.inr b then ((Sum.inr c : L2.Key), PyData.int v) else (Sum.inr c, .int (d c))) = (Sum.inr c, .int (put d b v c))
  unfold put
  by_cases e : c = b
  · subst e; rw [if_pos rfl, if_pos rfl]
  · rw [if_neg (fun z => e (Sum.inr.inj z)), if_neg e]
theorem merge_nodup : ∀ {kvs acc : List (L2.Key × PyData)}, ((acc ++ kvs).map (·.1)).Nodup → kvs.foldl (fun acc q => putD acc q.1 q.2) acc = acc ++ kvs
  | [], acc, _ => by rw [List.append_nil]; rfl
  | q :: kvs, acc, h => by
    have hn : (acc.any fun u => decide (u.1 = q.1)) = false := by
      rw [List.any_eq_false]
      intro u hu hd
      have e := of_decide_eq_true hd
      rw [List.map_append, List.nodup_append] at h
      exact h.2.2 u.1 (List.mem_map.mpr ⟨u, hu, rfl⟩) q.1 (List.mem_map.mpr ⟨q, List.mem_cons_self .., rfl⟩) e
    rw [List.foldl_cons]
    have e1 : putD acc q.1 q.2 = acc ++ [q] := by unfold putD; rw [if_neg (by rw [hn]; exact Bool.false_ne_true)]
    rw [e1, merge_nodup (by rw [List.append_assoc]; exact h), List.append_assoc]
    rfl
theorem mergeD_nodup {kvs : List (L2.Key × PyData)} (h : (kvs.map (·.1)).Nodup) : mergeD kvs = kvs := merge_nodup (acc := []) h
theorem kvT_nodup {ks : List (Str × PyData)} (h : (ks.map (·.1)).Nodup) : ((kvT ks).map (·.1)).Nodup := by
  have e : (kvT ks).map (·.1) = (ks.map (·.1)).map Sum.inr := by unfold kvT; rw [List.map_map, List.map_map]; rfl
  rw [e]
  exact List.Pairwise.map _ (fun a b hab z => hab (Sum.inr.inj z)) h
theorem dueK_pairs (bs : List Str) (d : Str → Int) : (dueK bs d).map pairK = dueD bs d := by
  rw [dueK_eq, List.map_map]; rfl
theorem dueP_pairs (bs : List Str) (d : Str → Int) : (dueP bs d).map pairD = dueD bs d := by
  unfold dueP; rw [List.map_map]; rfl
theorem srt_due {bs : List Str} {d : Str → Int} (hr : Rise id bs) (nd : bs.Nodup) : srt (fun q : Str × PyData => q.1) (dueP bs d) = dueP bs d := by
  refine (srt_unique (fun q : Str × PyData => q.1) (List.Perm.refl _) ?_ (nodup_inj (fun q : Str × PyData => q.1) (by rw [dueP_keys]; exact nd))).symm
  unfold dueP Rise
  exact List.Pairwise.map _ (fun _ _ h => h) hr
/-! one bill more -/
theorem lay_snoc {α : Type} [DecidableEq α] : ∀ (xs : List α) (d : α → Int) (r : Int) (b : α), lay (xs ++ [b]) d r =
    (if 0 < min2 (layR xs d r) (layD xs d r b) then (layF xs d r ++ [(b, min2 (layR xs d r) (layD xs d r b))], put (layD xs d r) b (layD xs d r b - min2 (layR xs d r) (layD xs d r b)), layR xs d r - min2 (layR xs d r) (layD xs d r b)) else lay xs d r)
  | [], d, r, b => rfl
  | c :: xs, d, r, b => by
    by_cases h : 0 < min2 r (d c)
    · rw [List.cons_append, lay_yes h, lay_snoc xs]
      unfold layF layD layR
      rw [lay_yes h]
      dsimp only
      split <;> rfl
    · rw [List.cons_append, lay_no h, lay_snoc xs]
      unfold layF layD layR
      rw [lay_no h]
end Ol
set_option Elab.async false
set_option linter.all false
set_option maxRecDepth 100000
set_option maxHeartbeats 2000000
/-! OlD0: the text, the globals, calls by name. -/
namespace Ol
open PySem L2
open Evl (Ex Ex.refl Ex.trans Ex.new ex_l ex_t fresh_back sz_of sz_lt)
def topS (i : Nat) : Stmt := PySem.Challenge.pw_ownlists_k15_whole_books_known_outright.main.body.getD i (.Pass ⟨0, 0, 0, 0⟩)
/-- the built-ins are still themselves -/
structure Bl (mg : Str → Option Value) : Prop where
  len : mg "len" = none
  tuple : mg "tuple" = none
  sorted : mg "sorted" = none
  set : mg "set" = none
  isinstance : mg "isinstance" = none
  list : mg "list" = none
  dict : mg "dict" = none
  min : mg "min" = none
  max : mg "max" = none
  sum : mg "sum" = none
  zip : mg "zip" = none
  range : mg "range" = none
  enumerate : mg "enumerate" = none
  abs : mg "abs" = none
  int : mg "int" = none
  all : mg "all" = none
  bool : mg "bool" = none
  str : mg "str" = none
/-- a def that stands under the name x keeps its promise -/
def Dn (P : Program) (w : World) (K : PySem.W.Frag) (mg : Str → Option Value) (base : Heap) (x : Str) (ps : List Str) (k : Nat) (R : Rel) : Prop :=
  ∃ (f : Addr) (fd : FuncData), FnOk P w K mg base CX0 k f fd ps (spD K R) ∧ mg x = some (.ref f) ∧ PySem.W.keepIn K (.ref f) = true ∧ Binds K fd ps []
section
variable {X : Cx} {env env1 env2 : List Sd} {e : Expr} {es : List Expr} {p pos : Pos} {k n : Nat} {ps : List Str} {R : Rel} {x : Str} {r : Sd} {gs : List Ag}
theorem ev_f {as' : List Sd} (D : Dn X.prog X.w X.K X.mg X.base x ps k R) (hr : Room n X.A) (hkn : k ≤ n) (ha : El X (e :: es) env env1 gs) (hR : R (gs.map (agS env1)) as' r)
    (hno : ∀ (i n : Nat), gs[i]? ≠ some (.b n) := by intro i n; rcases i with _ | _ | _ | _ | _ | i <;> (intro h; cases h)) (hg : Gl X x := by rfl) (hdb : (x == ("__debug__" : Str)) = false := by decide) (he : starEach (e :: es) X.env = (false, eval e X.env) :: starEach es X.env := by rfl)
    (hpl : (backTo pos (starEach es X.env)).any (·.1) = false := by rfl) : Ev X (.Call (.Name x p) (e :: es) [] pos) env env1 r := by
  obtain ⟨f, fd, F, hm, hk, hb⟩ := D
  exact ev_call F (hr.mono hkn) hm hk hb hR ha hno hg hdb he hpl
theorem ev_fB {as' : List Sd} (k0 i : Nat) {a : Option Addr} {φ φ' : HO → Hp → Prop} (D : Dn X.prog X.w X.K X.mg X.base x ps k R) (hr : Room n X.A) (hkn : k ≤ n) (ha : El X (e :: es) env env1 gs) (hR : R (gs.map (agS env1)) as' r)
    (h1 : gs[k0]? = some (.b i) := by rfl) (h2 : env1[i]? = some (.o a φ) := by rfl) (h3 : as'[k0]? = some (.o none φ') := by rfl)
    (hone : ∀ (j n : Nat), gs[j]? = some (.b n) → j = k0 := by intro j n; rcases j with _ | _ | _ | _ | _ | j <;> (intro h; first | rfl | cases h)) (hg : Gl X x := by rfl) (hdb : (x == ("__debug__" : Str)) = false := by decide) (he : starEach (e :: es) X.env = (false, eval e X.env) :: starEach es X.env := by rfl)
    (hpl : (backTo pos (starEach es X.env)).any (·.1) = false := by rfl) : Ev X (.Call (.Name x p) (e :: es) [] pos) env (env1.set i (.o a φ')) r := by
  obtain ⟨f, fd, F, hm, hk, hb⟩ := D
  exact ev_callB k0 i F (hr.mono hkn) hm hk hb hR ha h1 h2 h3 hone hg hdb he hpl
theorem ev_dicP {ds : List PyData} {kvs : List (L2.Key × PyData)} (e1 : kvs.map pairK = ds) (e2 : (kvs.map (·.1)).Nodup) (hm : X.mg "dict" = none) (h : Ev X e env env1 (.c (TfP X.K ds))) (hg : Gl X "dict" := by rfl) (hc : X.calm = true := by rfl) (he : starEach [e] X.env = (false, eval e X.env) :: starEach [] X.env := by rfl) :
    Ev X (.Call (.Name "dict" p) [e] [] pos) env env1 (.o none (Kf X.K kvs)) := by
  subst e1
  have := ev_dicT (p := p) (pos := pos) hm h hg hc he
  rw [mergeD_nodup e2] at this
  exact this
theorem el1 (h : Ev X e env env1 r) (hs : starEach [e] X.env = (false, eval e X.env) :: starEach [] X.env := by rfl) : El X [e] env env1 [.r r] := el_cons h el_nil hs
end
section
variable {P : Program} {w : World} {K : PySem.W.Frag} {mg : Str → Option Value} {base : Heap}
theorem dn_mk {x : Str} {st : Stmt} {f : Addr} {fd : FuncData} {ps : List Str} {k : Nat} {R : Rel} (F : Fun K x x st f fd) (hm : mg x = some (.ref f)) (hb : Binds K fd ps []) (h : FnOk P w K mg base CX0 k f fd ps (spD K R)) : Dn P w K mg base x ps k R := ⟨f, fd, h, hm, F.kp, hb⟩
/-- a def over data: f of its arguments -/
theorem back_u (as : List Sd) : Back as (as.map fun _ => .u) := ⟨by simp, fun i s h => .inl (by rw [List.getElem?_map] at h; cases q : as[i]? with | none => rw [q] at h; cases h | some z => rw [q] at h; cases h; rfl)⟩
end
/-! ### a body to its end -/
section
variable {X : Cx} {env env1 env2 back : List Sd} {e : Expr} {st : Stmt} {rest body : List Stmt} {pos : Pos} {r : Sd} {tg : Expr} {ds : List PyData} {d : PyData}
def Fin (X : Cx) (body : List Stmt) (env back : List Sd) (r : Sd) : Prop := ∃ env', (Rn X body env (.rt env' r) ∨ (r = .d .none ∧ Rn X body env (.nx env'))) ∧ Wk env' back
theorem fin_ret (he : Ev X e env env1 r) (w : Wk env1 back := by exact trivial) : Fin X (.Return (some e) pos :: rest) env back r := ⟨env1, .inl (rn_last (r1_ret he)), w⟩
theorem fin_cons (h : R1 X st env (.nx env1)) (hr : Fin X rest env1 back r) : Fin X (st :: rest) env back r := by
  obtain ⟨env', h2, w⟩ := hr
  refine ⟨env', ?_, w⟩
  rcases h2 with h2 | ⟨er, h2⟩
  · exact .inl (rn_cons h h2)
  · exact .inr ⟨er, rn_cons h h2⟩
theorem fin_nil (w : Wk env back := by exact trivial) : Fin X [] env back (.d .none) := ⟨env, .inr ⟨rfl, rn_nil⟩, w⟩
theorem fin_frz (i : Nat) (h : Fin X rest (env.set i (.d (.list ds))) back r) (hi : env[i]? = some (.o none (Lf X.K ds)) := by rfl) : Fin X rest env back r := by
  obtain ⟨env', h2, w⟩ := h
  refine ⟨env', ?_, w⟩
  rcases h2 with h2 | ⟨er, h2⟩
  · exact .inl (rn_frz i h2 hi)
  · exact .inr ⟨er, rn_frz i h2 hi⟩
theorem fin_pre (w : Wk env env1) (h : Fin X rest env1 back r) : Fin X rest env back r := by
  obtain ⟨env', h2, w'⟩ := h
  refine ⟨env', ?_, w'⟩
  rcases h2 with h2 | ⟨er, h2⟩
  · exact .inl (h2.pre w)
  · exact .inr ⟨er, h2.pre w⟩
/-- if with a return: taken, or passed by -/
theorem fin_ifT {c : Expr} {a b : List Stmt} {bb : Bool} (hc : Et X c env env1 bb) (hb : bb = true) (h : Fin X a env1 back r) (hr : ∃ env', Rn X a env1 (.rt env' r) ∧ Wk env' back) : Fin X (.If c a b pos :: rest) env back r := by
  obtain ⟨env', h2, w⟩ := hr
  exact ⟨env', .inl (rn_last (r1_if hc (fun _ => h2) fun z => by rw [hb] at z; cases z)), w⟩
theorem fin_ifR {c e : Expr} {b ss : List Stmt} {bb : Bool} {p2 : Pos} (hc : Et X c env env1 bb) (hb : bb = true) (he : Ev X e env1 env2 r) (w : Wk env2 back := by exact trivial) : Fin X (.If c (.Return (some e) p2 :: ss) b pos :: rest) env back r :=
  ⟨env2, .inl (rn_last (r1_if hc (fun _ => rn_last (r1_ret he)) fun z => by rw [hb] at z; cases z)), w⟩
theorem fin_ifN {c : Expr} {a : List Stmt} {bb : Bool} (hc : Et X c env env1 bb) (hb : bb = false) (h : Fin X rest env1 back r) : Fin X (.If c a [] pos :: rest) env back r :=
  fin_cons (r1_if hc (fun z => by rw [hb] at z; cases z) fun _ => rn_nil) h
def AllU (E : List Sd) : List Nat → Prop
  | [] => True
  | j :: r => E[j]? = some .u ∧ AllU E r
theorem AllU.get {E : List Sd} : ∀ {vs : List Nat}, AllU E vs → ∀ j s, j ∈ vs → E[j]? = some s → s = .u
  | k :: r, h, j, s, hj, e => by
    rcases List.mem_cons.mp hj with z | z
    · subst z
      rw [h.1] at e
      exact (Option.some.inj e).symm
    · exact AllU.get h.2 j s z e
theorem ev_lcq {elt iter : Expr} {ifs : List Expr} {scope : Scope} (E : List Sd) (own : List (Str × Nat)) (g : PyData → Option PyData) (hN : X.N.Nodup)
    (hi : Ei X tg iter env E ds) (ok : BlkOk X.N X.env.scope scope own) (hl : ds.length ≤ 100000) (ht : ∀ d, d ∈ ds → LcTurn X scope tg elt ifs (own.map (·.2)) d E E (g d)) (hu : AllU E (own.map (·.2)) := by exact ⟨rfl, trivial⟩)
    (hc : X.calm = true := by rfl) (hs : ∀ x, foldedSetIterable iter X.env x = pure x := by intro _; rfl) :
    Ev X (.ListComp elt [⟨tg, iter, ifs, 0⟩] scope pos) env E (.o none (Lf X.K (ds.filterMap g))) := ev_lcp own g hN hi ok hu.get hl ht hc hs
end
theorem Wk.trans : ∀ {a b c : List Sd}, Wk a b → Wk b c → Wk a c
  | [], [], [], _, _ => trivial
  | x :: a, y :: b, z :: c, h1, h2 => by
    cases z with
    | u =>
      have h1' : Wk a b := by cases y with | u => exact h1 | d _ => exact h1.2 | c _ => exact h1.2 | o _ _ => exact h1.2
      have h2' : Wk b c := by cases y <;> exact h2
      exact Wk.trans (a := a) (b := b) (c := c) h1' h2'
    | d _ => obtain ⟨rfl, h2'⟩ := h2; exact ⟨h1.1, Wk.trans (a := a) (b := b) (c := c) h1.2 h2'⟩
    | c _ => obtain ⟨rfl, h2'⟩ := h2; exact ⟨h1.1, Wk.trans (a := a) (b := b) (c := c) h1.2 h2'⟩
    | o _ _ => obtain ⟨rfl, h2'⟩ := h2; exact ⟨h1.1, Wk.trans (a := a) (b := b) (c := c) h1.2 h2'⟩
  | [], [], _ :: _, _, h => h.elim
  | [], _ :: _, _, h, _ => h.elim
  | _ :: _, [], _, h, _ => h.elim
  | _ :: _, _ :: _, [], _, h => h.elim
theorem Wk.drop2 {E : List Sd} {i j : Nat} {s t : Sd} (hi : E[i]? = some .u) (hj : E[j]? = some .u) : Wk ((E.set i s).set j t) E := by
  by_cases e : i = j
  · subst e; rw [List.set_set]; exact Wk.drop hi
  · rw [List.set_comm _ _ e]
    exact (Wk.drop (E := E.set j t) (i := i) (by rw [List.getElem?_set_ne (fun z => e z.symm)]; exact hi)).trans (Wk.drop hj)
section
variable {X : Cx} {d1 d2 y : PyData} {elt : Expr} {scope : Scope} {E : List Sd} {x1 x2 : Str} {p1 p2 tpos : Pos} {kk : Nat}
/-- a turn whose target is a pair of names -/
theorem lct_two (i j : Nat) (hi : E[i]? = some .u) (hj : E[j]? = some .u) (h0 : ∀ s H C cl fp, Tg (Xb X scope s H C cl fp) (.Tuple [.Name x1 p1, .Name x2 p2] kk tpos) [i, j] (.tuple [d1, d2]) E ((E.set i (.d d1)).set j (.d d2)))
    (h : ∀ s H C cl fp, Ev (Xb X scope s H C cl fp) elt ((E.set i (.d d1)).set j (.d d2)) ((E.set i (.d d1)).set j (.d d2)) (.d y)) : LcTurn X scope (.Tuple [.Name x1 p1, .Name x2 p2] kk tpos) elt [] [i, j] (.tuple [d1, d2]) E E (some y) :=
  ⟨_, h0, _, _, fun _ _ _ _ _ => ep_nil, h, Wk.drop2 hi hj⟩
end
/-- a relation of data alone -/
def RelD (D : List PyData → Sd → Prop) : Rel := fun as as' r => ∃ ds, as = ds.map .d ∧ as' = ds.map (fun _ => .u) ∧ D ds r
theorem addr_d : ∀ {vs : List V} {ds : List PyData}, vs.length = ds.length → addr vs (ds.map .d) = ds.map .d
  | [], [], _ => rfl
  | v :: vs, d :: ds, h => by
    have ih := addr_d (vs := vs) (ds := ds) (by simpa using h)
    cases v <;> exact congrArg (Sd.d d :: ·) ih
  | [], _ :: _, h => by simp at h
  | _ :: _, [], h => by simp at h
theorem addr_u : ∀ {vs : List V} {ds : List PyData}, vs.length = ds.length → addr vs (ds.map fun _ => Sd.u) = ds.map fun _ => Sd.u
  | [], [], _ => rfl
  | v :: vs, d :: ds, h => by
    have ih := addr_u (vs := vs) (ds := ds) (by simpa using h)
    cases v <;> exact congrArg (Sd.u :: ·) ih
  | [], _ :: _, h => by simp at h
  | _ :: _, [], h => by simp at h
section
variable {P : Program} {w : World} {K : PySem.W.Frag} {mg : Str → Option Value} {base : Heap}
theorem fn_okD {x qual : Str} {st : Stmt} {f : Addr} {fd : FuncData} {N ps : List Str} {k : Nat} {D : List PyData → Sd → Prop} (F : Fun K x qual st f fd) (S : FnScope N ps (defScope st)) (hlen : ∀ ds r, D ds r → ds.length = ps.length)
    (hb : ∀ (cdv : Value) (A : Around) (outer : List Env) (s : Shared) (H : Hp) (E : XK), Room k (A.deeper (PyProof.Rows.envOfC qual (defScope st) s.heap.objs.size f cdv)) → ∀ ds r, D ds r →
      Fin (cxOf CX0 P w K mg base N qual (defScope st) f cdv A outer s H E).nox (defBody st) (ds.map .d ++ List.replicate (N.length - ps.length) .u) (ds.map (fun _ => .u) ++ List.replicate (N.length - ps.length) .u) r) : FnOk P w K mg base CX0 (k + 1) f fd ps (spD K (RelD D)) := by
  refine fn_ok F S (fun as as' r h => ?_) fun cdv A outer s H E hr vs as as' r h hl _ => ?_
  · obtain ⟨ds, rfl, rfl, h⟩ := h
    refine ⟨by rw [List.length_map]; exact hlen ds r h, ?_⟩
    have := back_u (ds.map Sd.d)
    rw [List.map_map] at this
    exact this
  · obtain ⟨ds, rfl, rfl, h⟩ := h
    rw [List.length_map] at hl
    rw [addr_d hl, addr_u hl, show vs.length = ps.length from hl.trans (hlen ds r h)]
    exact hb cdv A outer s H E hr ds r h
end
end Ol
set_option Elab.async false
set_option linter.all false
set_option maxRecDepth 100000
set_option maxHeartbeats 2000000
/-! OlPar: several stores at once; a starred item; a dict's item and a name. -/
namespace Ol
open PySem L2
open Evl (Ex Ex.refl Ex.trans Ex.new ex_l ex_t fresh_back sz_of sz_lt)
section
variable {X : Cx} {K : PySem.W.Frag} {env env1 env2 : List Sd} {e a b c : Expr} {es : List Expr} {p pos : Pos} {d d1 d2 : PyData} {r r1 r2 r3 : Sd} {ds ds2 : List PyData} {β : Bs} {σ : L2.St} {H H1 H' H2 : Hp} {v v1 v2 v3 : V}
theorem ResOk.past {i : Nat} (S : St K β σ H H1 env) (h : ResOk K β σ env H H1 v r) (hi : i < env.length) (hd : ∀ q a φ b ψ, v = .ref q → v1 = .ref q → r = .o a φ → r1 = .o b ψ → False) : ResOk K β (σ.set i (some v1)) (env.set i r1) H H1 v r :=
  ⟨h.ok, fun a φ er q ev => ⟨(h.new a φ er q ev).1, fun k ⟨w1, c, ψ, w2⟩ => by
    by_cases ek : i = k
    · subst ek
      rw [List.getElem?_set_self (by rw [S.env.len]; exact hi)] at w1
      rw [List.getElem?_set_self hi] at w2
      exact hd q a φ c ψ ev (Option.some.inj (Option.some.inj w1)) er (Option.some.inj w2)
    · rw [List.getElem?_set_ne ek] at w1 w2
      exact (h.new a φ er q ev).2 k ⟨w1, c, ψ, w2⟩⟩⟩
theorem ResOk.up (S : St K β σ H H1 env) (h : ResOk K β σ env H H1 v r) (u : Up H H1 H' H2) : ResOk K β σ env H' H2 v r :=
  ⟨h.ok.up u.ex fun q o _ h0 h1 _ => ⟨u.off h0 (some_ne h1), u.at h1⟩, h.new⟩
theorem ags_ne {vs : List V} {gs : List Ag} (G : AgsOk K β σ env H H1 vs gs) {i j : Nat} (hij : i ≠ j) {x y : V} (hx : vs[i]? = some x) (hy : vs[j]? = some y) (gi : gs[i]? = some (.r r)) (gj : gs[j]? = some (.r r1)) : ∀ q a φ b ψ, x = .ref q → y = .ref q → r = .o a φ → r1 = .o b ψ → False :=
  fun q a φ b ψ ex ey er es => hij (G.inj i j q a φ b ψ (by rw [hx, ex]) (by rw [hy, ey]) (by rw [gi, er]) (by rw [gj, es]))
theorem ags2 {vs : List V} (G : AgsOk K β σ env H H1 vs [.r r1, .r r2]) : ∃ x y, vs = [x, y] ∧ ResOk K β σ env H H1 x r1 ∧ ResOk K β σ env H H1 y r2 ∧ (∀ q a φ b ψ, y = .ref q → x = .ref q → r2 = .o a φ → r1 = .o b ψ → False) := by
  match vs, G with
  | [x, y], G => exact ⟨x, y, rfl, G.at_ 0 x _ rfl rfl, G.at_ 1 y _ rfl rfl, ags_ne G (i := 1) (j := 0) (by decide) rfl rfl rfl rfl⟩
  | [], G => exact absurd G.len (by simp)
  | [_], G => exact absurd G.len (by simp)
  | _ :: _ :: _ :: _, G => exact absurd G.len (by simp)
theorem ags3 {vs : List V} (G : AgsOk K β σ env H H1 vs [.r r1, .r r2, .r r3]) : ∃ x y z, vs = [x, y, z] ∧ ResOk K β σ env H H1 x r1 ∧ ResOk K β σ env H H1 y r2 ∧ ResOk K β σ env H H1 z r3 ∧ (∀ q a φ b ψ, y = .ref q → x = .ref q → r2 = .o a φ → r1 = .o b ψ → False) ∧
    (∀ q a φ b ψ, z = .ref q → x = .ref q → r3 = .o a φ → r1 = .o b ψ → False) ∧ (∀ q a φ b ψ, z = .ref q → y = .ref q → r3 = .o a φ → r2 = .o b ψ → False) := by
  match vs, G with
  | [x, y, z], G => exact ⟨x, y, z, rfl, G.at_ 0 x _ rfl rfl, G.at_ 1 y _ rfl rfl, G.at_ 2 z _ rfl rfl, ags_ne G (i := 1) (j := 0) (by decide) rfl rfl rfl rfl, ags_ne G (i := 2) (j := 0) (by decide) rfl rfl rfl rfl, ags_ne G (i := 2) (j := 1) (by decide) rfl rfl rfl rfl⟩
  | [], G => exact absurd G.len (by simp)
  | [_], G => exact absurd G.len (by simp)
  | [_, _], G => exact absurd G.len (by simp)
  | _ :: _ :: _ :: _ :: _, G => exact absurd G.len (by simp)
theorem St.set3 {i j k : Nat} (S : St K β σ H H1 env) (h1 : ResOk K β σ env H H1 v1 r1) (h2 : ResOk K β σ env H H1 v2 r2) (h3 : ResOk K β σ env H H1 v3 r3) (n21 : ∀ q a φ b ψ, v2 = .ref q → v1 = .ref q → r2 = .o a φ → r1 = .o b ψ → False)
    (n31 : ∀ q a φ b ψ, v3 = .ref q → v1 = .ref q → r3 = .o a φ → r1 = .o b ψ → False) (n32 : ∀ q a φ b ψ, v3 = .ref q → v2 = .ref q → r3 = .o a φ → r2 = .o b ψ → False) (hi : i < env.length) (hj : j < env.length) (hk : k < env.length) :
    St K β (((σ.set i (some v1)).set j (some v2)).set k (some v3)) H H1 (((env.set i r1).set j r2).set k r3) := by
  have S1 := S.set h1 hi
  have hj' : j < (env.set i r1).length := by rw [List.length_set]; exact hj
  have S2 := S1.set (h2.past S hi n21) hj'
  exact S2.set ((h3.past S hi n31).past S1 hj' n32) (by rw [List.length_set, List.length_set]; exact hk)
theorem St.set2 {i j : Nat} (S : St K β σ H H1 env) (h1 : ResOk K β σ env H H1 v1 r1) (h2 : ResOk K β σ env H H1 v2 r2) (n21 : ∀ q a φ b ψ, v2 = .ref q → v1 = .ref q → r2 = .o a φ → r1 = .o b ψ → False) (hi : i < env.length) (hj : j < env.length) :
    St K β ((σ.set i (some v1)).set j (some v2)) H H1 ((env.set i r1).set j r2) := (S.set h1 hi).set (h2.past S hi n21) (by rw [List.length_set]; exact hj)
/-- a, b, c = e1, e2, e3: plain locals -/
theorem r1_par3 (i j k : Nat) {x y z : Str} {px py pz pt : Pos} {kt k2 pt2} (ha : El X [a, b, c] env env1 [.r r1, .r r2, .r r3]) (hN : X.N.Nodup) (hi : X.N[i]? = some x := by rfl) (hj : X.N[j]? = some y := by rfl) (hk : X.N[k]? = some z := by rfl) (hij : i ≠ j := by decide) (hik : i ≠ k := by decide) (hjk : j ≠ k := by decide)
    (hx : X.env.scope.names.lookup x = some .local := by rfl) (hy : X.env.scope.names.lookup y = some .local := by rfl) (hz : X.env.scope.names.lookup z = some .local := by rfl) (hc : X.calm = true := by rfl) (hli : i < env1.length := by exact Nat.le_of_ble_eq_true rfl) (hlj : j < env1.length := by exact Nat.le_of_ble_eq_true rfl) (hlk : k < env1.length := by exact Nat.le_of_ble_eq_true rfl)
    (hw : swappedStores [.Tuple [.Name x px, .Name y py, .Name z pz] kt pt] (.Tuple [a, b, c] k2 pt2) X.env = pure (some [x, y, z]) := by rfl)
    (hs : swapsWithSole [.Tuple [.Name x px, .Name y py, .Name z pz] kt pt] (.Tuple [a, b, c] k2 pt2) pos.line X.env = pure false := by rfl) :
    R1 X (.Assign [.Tuple [.Name x px, .Name y py, .Name z pz] kt pt] (.Tuple [a, b, c] k2 pt2) pos) env (.nx (((env1.set i r1).set j r2).set k r3)) := fun β σ H H1 D hL S C =>
  tsW.of (ps_par3 hc hN hi hj hk hij hik hjk hx hy hz paW hw hs) (ha β σ H H1 _ S fun vs H' H2 S' ex G => by
    obtain ⟨v1, v2, v3, rfl, g1, g2, g3, n21, n31, n32⟩ := ags3 G
    exact ⟨v1, v2, v3, rfl, C _ H' H2 (S'.set3 g1 g2 g3 n21 n31 n32 hli hlj hlk)⟩)
/-- a, b = e1, e2 by the pair itself (a name that is a cell) -/
theorem r1_tup2 (i j : Nat) {x y : Str} {px py pt : Pos} {kt k2 pt2} (ha : El X [a, b] env env1 [.r r1, .r r2]) (hN : X.N.Nodup) (hi : X.N[i]? = some x := by rfl) (hj : X.N[j]? = some y := by rfl)
    (hx : Loc X.env.scope x := by first | exact Or.inl rfl | exact Or.inr rfl) (hy : Loc X.env.scope y := by first | exact Or.inl rfl | exact Or.inr rfl) (hfx : X.fn x = true ∨ X.env.scope.names.lookup x = some .local := by first | exact .inl rfl | exact .inr rfl) (hfy : X.fn y = true ∨ X.env.scope.names.lookup y = some .local := by first | exact .inl rfl | exact .inr rfl)
    (hc : X.calm = true := by rfl) (hli : i < env1.length := by exact Nat.le_of_ble_eq_true rfl) (hlj : j < env1.length := by exact Nat.le_of_ble_eq_true rfl)
    (h0 : (assignEach [.Name x px, .Name y py] X.env).map (·.2) = assign (.Name x px) X.env :: (assignEach [.Name y py] X.env).map (·.2) := by rfl) (h1 : (assignEach [.Name y py] X.env).map (·.2) = assign (.Name y py) X.env :: (assignEach [] X.env).map (·.2) := by rfl)
    (hl : (assignEach [.Name x px, .Name y py] X.env).length = 2 := by rfl) (hst : (assignEach [.Name x px, .Name y py] X.env).findIdx? (·.1) = none := by rfl)
    (hs : swapsWithSole [.Tuple [.Name x px, .Name y py] kt pt] (.Tuple [a, b] k2 pt2) pos.line X.env = pure false := by rfl) (hw : swappedStores [.Tuple [.Name x px, .Name y py] kt pt] (.Tuple [a, b] k2 pt2) X.env = pure none := by rfl)
    (h2 : (assignEach [.Tuple [.Name x px, .Name y py] kt pt] X.env).map (·.2) = [assign (.Tuple [.Name x px, .Name y py] kt pt) X.env] := by rfl) :
    R1 X (.Assign [.Tuple [.Name x px, .Name y py] kt pt] (.Tuple [a, b] k2 pt2) pos) env (.nx ((env1.set i r1).set j r2)) := fun β σ H H1 D hL S C =>
  tsW.of (ps_asg (pe_tup paW) (pg_tup hc (pgs_cons (pg_name hN hi hx hfx) (pgs_cons (pg_name hN hj hy hfy) pgs_nil h1) h0) hl hst) hs hw h2) (ha β σ H H1 _ S fun vs H' H2 S' ex G => by
    obtain ⟨v1, v2, rfl, g1, g2, n21⟩ := ags2 G
    refine ⟨sz5 (n := 2) (by decide), fun q hq => ?_⟩
    have u := Up.newM (p := q) (o := .tup [v1, v2]) S'.ex hq
    exact ⟨q, [v1, v2], rfl, SqT.of upd_same, rfl, v1, [v2], rfl, v2, [], rfl, rfl, C _ H' _ ((S'.up u).set2 (g1.up S' u) (g2.up S' u) n21 hli hlj)⟩)
/-- d[k], y = e1, e2: d a dict of our own -/
theorem r1_dputN (i j : Nat) {x y : Str} {px py pt ps' : Pos} {kt k2 pt2} {kvs : List (L2.Key × PyData)} {k : L2.Key} {o : Option Addr} (hu : X.A.units + 1 < cLine) (ha : Ed X [a, b] env env1 [d1, d2]) (hk : Ev X c env1 env1 (.d (keyD k))) (h1 : env1[i]? = some (.o o (Kf X.K kvs))) (hij : i ≠ j) (hlen : kvs.length < 100000) (hN : X.N.Nodup) (hi : X.N[i]? = some x := by rfl) (hj : X.N[j]? = some y := by rfl)
    (hv : Vis X.env.scope x := by first | exact Or.inl rfl | exact Or.inr (Or.inl rfl) | exact Or.inr (Or.inr rfl)) (hd : (x == ("__debug__" : Str)) = false := by decide) (hcd : (x == ("__classdict__" : Str)) = false := by decide)
    (hy : Loc X.env.scope y := by first | exact Or.inl rfl | exact Or.inr rfl) (hfy : X.fn y = true ∨ X.env.scope.names.lookup y = some .local := by first | exact .inl rfl | exact .inr rfl)
    (hc : X.calm = true := by rfl) (hlj : j < env1.length := by exact Nat.le_of_ble_eq_true rfl)
    (hasn : ∀ v, assign (.Subscript (.Name x px) c ps') X.env v = (do
      let ov ← holding [v] (eval (.Name x px) X.env)
      let iv ← holding [v, ov] (eval c X.env)
      standAt ps'
      holding [v, ov, iv] (setItem ov iv v)
      release [v, ov, iv] []) := by intro _; rfl)
    (h0 : (assignEach [.Subscript (.Name x px) c ps', .Name y py] X.env).map (·.2) = assign (.Subscript (.Name x px) c ps') X.env :: (assignEach [.Name y py] X.env).map (·.2) := by rfl) (h01 : (assignEach [.Name y py] X.env).map (·.2) = assign (.Name y py) X.env :: (assignEach [] X.env).map (·.2) := by rfl)
    (hl : (assignEach [.Subscript (.Name x px) c ps', .Name y py] X.env).length = 2 := by rfl) (hst : (assignEach [.Subscript (.Name x px) c ps', .Name y py] X.env).findIdx? (·.1) = none := by rfl)
    (hs : swapsWithSole [.Tuple [.Subscript (.Name x px) c ps', .Name y py] kt pt] (.Tuple [a, b] k2 pt2) pos.line X.env = pure false := by rfl) (hw : swappedStores [.Tuple [.Subscript (.Name x px) c ps', .Name y py] kt pt] (.Tuple [a, b] k2 pt2) X.env = pure none := by rfl)
    (h2 : (assignEach [.Tuple [.Subscript (.Name x px) c ps', .Name y py] kt pt] X.env).map (·.2) = [assign (.Tuple [.Subscript (.Name x px) c ps', .Name y py] kt pt) X.env] := by rfl) :
    R1 X (.Assign [.Tuple [.Subscript (.Name x px) c ps', .Name y py] kt pt] (.Tuple [a, b] k2 pt2) pos) env (.nx ((env1.set i (.o o (Kf X.K (putD kvs k d1)))).set j (.d d2))) := fun β σ H H1 D hL S C =>
  tsW.of (ps_asg (pe_tup paW) (pg_tup hc (pgs_cons (pg_sub (pe_var hi hv hd hcd) peW (set_dK hu) hasn) (pgs_cons (pg_name hN hj hy hfy) pgs_nil h01) h0) hl hst) hs hw h2) (ha β σ H H1 _ S fun vs H' H2 S' ex pd => by
    obtain ⟨v1, v2, rfl, p1, p2⟩ := dpa2 pd
    refine ⟨sz5 (n := 2) (by decide), fun q hq => ?_⟩
    have u := Up.newM (p := q) (o := .tup [v1, v2]) S'.ex hq
    have S2 := S'.up u
    obtain ⟨l, w, hl', _⟩ := S2.at h1
    refine ⟨q, [v1, v2], rfl, SqT.of upd_same, rfl, v1, [v2], rfl, .ref l, hl', hk β σ H' _ _ S2 fun kv Hc Hd Sc ec Rc => ?_⟩
    obtain ⟨ys, hy', hdd⟩ := Sc.atK h1 hl'
    refine ⟨l, ys, k, rfl, dp_key Rc.d, hy', by rw [hdd.len]; exact sz5l hlen, v2, [], rfl, rfl, ?_⟩
    have S3 := Sc.mut (o := .dK (putK ys k v1)) h1 hl' (ψ := Kf X.K (putD kvs k d1)) fun Hx exx => ⟨_, rfl, dka_ex exx (hdd.put (dp_ex ec p1))⟩
    exact C _ Hc _ (S3.set (.dd (dp_ex ec p2)) (by rw [List.length_set]; exact hlj)))
theorem ed_starL' (h : Ev X e env env1 (.d (.list ds))) (hr : Ed X es env1 env2 ds2) (hs : starEach (.Starred e p :: es) X.env = (true, eval e X.env) :: starEach es X.env := by rfl) : Ed X (.Starred e p :: es) env env2 (ds ++ ds2) := ed_starL h hr fun te tr h1 h2 => StX.pa_star h1 h2 hs
theorem ed_starT (h : Ev X e env env1 (.d (.tuple ds))) (hr : Ed X es env1 env2 ds2) (hs : starEach (.Starred e p :: es) X.env = (true, eval e X.env) :: starEach es X.env := by rfl) : Ed X (.Starred e p :: es) env env2 (ds ++ ds2) := ed_star h hr fun te tr h1 h2 => StX.pa_star h1 h2 hs
end
end Ol
set_option Elab.async false
set_option linter.all false
set_option maxRecDepth 100000
set_option maxHeartbeats 2000000
/-! OlZipTL: a walk over zip of a tuple and a list. -/
namespace Ol
open PySem L2
open Evl (Ex Ex.refl Ex.trans Ex.new ex_l ex_t fresh_back sz_of sz_lt)
/-- the tuple at a, the list at b, item by item in new pairs -/
def ItTL (K : PySem.W.Frag) (a b : Addr) : It :=
  ⟨fun i H => ∃ (xs ys : List V) (x y : V), SqT K H a xs ∧ SqL K H b ys ∧ xs[i]? = some x ∧ ys[i]? = some y,
    fun i H v H' => ∃ T x y, v = .ref T ∧ H T = none ∧ H' = upd H T (.tup [x, y]) ∧ (∀ xs, SqT K H a xs → xs[i]? = some x) ∧ ∀ ys, SqL K H b ys → ys[i]? = some y,
    fun i H => ∃ xs ys : List V, SqT K H a xs ∧ SqL K H b ys ∧ i ≤ xs.length ∧ i ≤ ys.length ∧ (i = xs.length ∨ i = ys.length)⟩
def tlAt (z TI TO i1 i2 a b : Addr) (i : Nat) (h : Heap) : Prop := IsZip h z TI TO .none ∧ IsTupOf2 h TI (.ref i1) (.ref i2) ∧ (∃ x y, IsTupOf2 h TO x y) ∧ h.IsTupleIter i1 a i ∧ h.IsListIter i2 b i
theorem five {z TI TO i1 i2 c : Addr} (h : c ∈ [z, TI, TO, i1, i2]) : c = z ∨ c = TI ∨ c = TO ∨ c = i1 ∨ c = i2 := by simpa using h
theorem five_no {z TI TO i1 i2 c : Addr} (h : c ∉ [z, TI, TO, i1, i2]) : c ≠ z ∧ c ≠ TI ∧ c ≠ TO ∧ c ≠ i1 ∧ c ≠ i2 := by simpa using h
theorem turn_zipTL {P : Program} {w : World} {K : PySem.W.Frag} {elts : List Expr} {kk : Nat} {tpos : Pos} {a b z TI TO i1 i2 : Addr} (S : ZipSep2 z TI TO i1 i2 [i1, a] [i2, b]) (ha : a ≠ i1) (hb : b ≠ i2) : Turn P w K (.Tuple elts kk tpos) (ItTL K a b) [z, TI, TO, i1, i2] z (tlAt z TI TO i1 i2 a b) where
  mem := List.mem_cons_self ..
  obj := fun i h st c hc => by
    obtain ⟨q1, q2, ⟨x, y, q3⟩, ⟨u4, q4, _, r4⟩, ⟨u5, q5, _, r5⟩⟩ := st
    rcases five hc with rfl | rfl | rfl | rfl | rfl
    · exact ⟨_, q1, fun v e => nomatch e⟩
    · exact ⟨_, q2, fun v e => nomatch e⟩
    · exact ⟨_, q3, fun v e => nomatch e⟩
    · exact ⟨u4, q4, fun v e => nomatch r4.symm.trans e⟩
    · exact ⟨u5, q5, fun v e => nomatch r5.symm.trans e⟩
  keep := fun i h h' st k => by
    obtain ⟨q1, q2, ⟨x, y, q3⟩, q4, q5⟩ := st
    exact ⟨k z (by simp) _ q1, k TI (by simp) _ q2, ⟨x, y, k TO (by simp) _ q3⟩, q4.at fun o e => k i1 (by simp) o e, q5.at fun o e => k i2 (by simp) o e⟩
  item := by
    intro X hP hw hK hc i pins s σ H E I hf st hg
    subst hP hw hK
    obtain ⟨q1, q2, ⟨x0, y0, q3⟩, q4, q5⟩ := st
    obtain ⟨xs, ys, x, y, sx, sy, hx, hy⟩ := hg
    obtain ⟨its, rv, t1, _⟩ := I.tuple sx
    obtain ⟨its2, rv2, t2, _⟩ := I.list sy
    obtain ⟨u, hu, ru⟩ := rv.get hx
    obtain ⟨u2, hu2, ru2⟩ := rv2.get hy
    have zl : z < s.heap.objs.size := Heap.lt_size q1
    have zTI : s.heap.objs.size ≠ TI := fun e => Nat.lt_irrefl _ (by rw [← e] at q2; exact Heap.lt_size q2)
    have D1 := Draws.tuple (prog := X.prog) (w := X.w) (A := X.A.in1) (I.ok.hd hc) i1 a ha its.toArray
    have D2 := Draws.list (prog := X.prog) (w := X.w) (A := X.A.in1) (I.ok.hd hc) i2 b hb its2.toArray
    refine wpAny_pyNext_zipD2_item S D1 D2 q1 q2 q3 ⟨q4, t1⟩ ⟨q5, t2.isList⟩
      (by rw [List.size_toArray]; exact (List.getElem?_eq_some_iff.mp hu).1) (by rw [List.size_toArray]; exact (List.getElem?_eq_some_iff.mp hu2).1) fun w1 w2 h' tk e1 e2 z1 o1 n1 n2 nT hsz hk => ?_
    have e1' : w1 = u := Option.some.inj (e1.symm.trans (by simpa using hu))
    have e2' : w2 = u2 := Option.some.inj (e2.symm.trans (by simpa using hu2))
    subst e1' e2'
    refine ⟨_, rfl, wpAny_letOwnedTupleGo_zip (s := { s with heap := h', toks := tk }) z1 fun h2 z2 sb => ?_⟩
    have nT2 : h2.get? s.heap.objs.size = some { cls := .type "tuple", data := .seq #[w1, w2] } := (sb.2 _ (Nat.ne_of_gt zl)).trans nT
    have new : ObjOk X.prog X.w (upd H s.heap.objs.size (.tup [x, y])) h2 s.heap.objs.size (.tup [x, y]) := ⟨sz5 (n := 2) (by decide), [w1, w2], .cons ru (.cons ru2 .nil), _, nT2, rfl, _, rfl⟩
    have I1 := I.turnedNew (h' := h2) (t' := tk) (ch := [z, TI, TO, i1, i2]) (T := s.heap.objs.size) (ob := .tup [x, y]) (fun c o hb q => by
      obtain ⟨c1, c2, c3, c4, c5⟩ := five_no hb
      exact (sb.2 c c1).trans (hk c o c1 c3 c4 c5 q)) hf (Nat.le_refl _) new
    refine ⟨.ref s.heap.objs.size, _, I1, rfl, ⟨_, x, y, rfl, I.hok.fresh (Nat.le_refl _), rfl, fun l hl => by rw [I.tuple_inj hl sx]; exact hx, fun l hl => by rw [I.list_inj hl sy]; exact hy⟩, ⟨z2, ?_, ⟨w1, w2, (sb.2 _ S.TOz).trans o1⟩, ?_, ?_⟩, fun c hcm => ?_⟩
    · exact (sb.2 _ S.TIz).trans (hk _ _ S.TIz S.TITO S.TIi1 S.TIi2 q2)
    · exact n1.1.at fun o q => (sb.2 _ (fun e => S.zf1 (by rw [← e]; simp))).trans q
    · exact n2.1.at fun o q => (sb.2 _ (fun e => S.zf2 (by rw [← e]; simp))).trans q
    · have hlt : c < s.heap.objs.size := by
        rcases five hcm with rfl | rfl | rfl | rfl | rfl
        · exact zl
        · exact Heap.lt_size q2
        · exact Heap.lt_size q3
        · obtain ⟨_, e, _⟩ := q4; exact Heap.lt_size e
        · obtain ⟨_, e, _⟩ := q5; exact Heap.lt_size e
      rw [upd_ne (Nat.ne_of_lt hlt)]
      exact (hf c hcm).1
  done := by
    intro X hP hw hK hc i pins s σ H E I hf st hg
    subst hP hw hK
    obtain ⟨q1, q2, ⟨x0, y0, q3⟩, q4, q5⟩ := st
    obtain ⟨xs, ys, sx, sy, l1, l2, hend⟩ := hg
    obtain ⟨its, rv, t1, _⟩ := I.tuple sx
    obtain ⟨its2, rv2, t2, _⟩ := I.list sy
    have m1 := rv.length
    have m2 := rv2.length
    have D1 := Draws.tuple (prog := X.prog) (w := X.w) (A := X.A.in1) (I.ok.hd hc) i1 a ha its.toArray
    have D2 := Draws.list (prog := X.prog) (w := X.w) (A := X.A.in1) (I.ok.hd hc) i2 b hb its2.toArray
    exact wpAny_pyNext_zipD2_end S D1 D2 q1 q2 q3 ⟨q4, t1⟩ ⟨q5, t2.isList⟩ (by rw [List.size_toArray]; omega) (by rw [List.size_toArray]; omega) (by rw [List.size_toArray, List.size_toArray]; omega)
      fun h' tk hk => ⟨rfl, I.turnedL (t' := tk) (ch := [z, TI, TO, i1, i2]) (fun c o hb q => by
        obtain ⟨c1, c2, c3, c4, c5⟩ := five_no hb
        exact hk c o c1 c3 c4 c5 q) hf⟩
  self := fun A i s Q E st h => wpAny_pyIter_zip st.1 h
def iZipTL (K : PySem.W.Frag) (ta : TA) : TI := fun σ H R => ta σ H fun vs H1 => ∃ a b xs ys, vs = [.ref a, .ref b] ∧ SqT K H1 a xs ∧ SqL K H1 b ys ∧ R (ItTL K a b) H1
theorem pi_zipTL {X : Cx} {e e2 : Expr} {ta : TA} {p pos tpos : Pos} {elts : List Expr} {kk : Nat} (hg : Gl X "zip") (hm : X.mg "zip" = none) (ha : PA X [e, e2] ta)
    (hs : starEach [e, e2] X.env = (false, eval e X.env) :: starEach [e2] X.env := by rfl) (hpl : (backTo pos (starEach [e2] X.env)).any (·.1) = false := by rfl) : PI X (.Tuple elts kk tpos) (.Call (.Name "zip" p) [e, e2] [] pos) (iZipTL X.K ta) := by
  refine ⟨fun pins s σ H R I h => ?_⟩
  refine PyProof.Rows.Call_ (ld_blt I hg hm PyProof.Rows.boot_zip (PyProof.Rows.callWith_type1 (thn (ha.run pos pins s σ H _ I h) fun us s1 ⟨vs, H1, I1, r1, a, b, xs, ys, ex, sx, sy, q⟩ => ?_) hs hpl))
  subst ex
  cases r1 with
  | cons r rr =>
    cases rr with
    | cons r' rr =>
      cases rr
      cases r
      cases r'
      obtain ⟨its, rv, t1, _⟩ := I1.tuple sx
      obtain ⟨its2, rv2, t2, _⟩ := I1.list sy
      have la : a < s1.heap.objs.size := by obtain ⟨o, ho, _⟩ := id t1; exact Heap.lt_size ho
      have lb : b < s1.heap.objs.size := t2.lt
      refine zip_begins2 (begins_tuple a its.toArray) (begins_list b its2.toArray) t1 t2.isList fun h' hz hTI hTO g1 g2 hsz hk => wpAny_pyIter_zip hz ?_
      have I2 : L2.Inv X pins σ H1 { s1 with heap := h' } := I1.kept (t' := s1.toks) hk
      refine ⟨s1.heap.objs.size + 4, [s1.heap.objs.size + 4, s1.heap.objs.size + 2, s1.heap.objs.size + 3, s1.heap.objs.size, s1.heap.objs.size + 1], _, _, H1, rfl, I2, turn_zipTL (zip_sep2 (fp1 := [a]) (fp2 := [b]) (fun c hc => by rw [List.mem_singleton.mp hc]; exact la) (fun c hc => by rw [List.mem_singleton.mp hc]; exact lb)) (Nat.ne_of_lt la) (Nat.ne_of_lt (Nat.lt_succ_of_lt lb)), ⟨hz, hTI, ⟨_, _, hTO⟩, ⟨_, g1, rfl, rfl⟩, ⟨_, g2, rfl, rfl⟩⟩, fun c hcm => ?_, q⟩
      have hle : s1.heap.objs.size ≤ c := by
        rcases five hcm with rfl | rfl | rfl | rfl | rfl
        · exact Nat.le_add_right _ _
        · exact Nat.le_add_right _ _
        · exact Nat.le_add_right _ _
        · exact Nat.le_refl _
        · exact Nat.le_add_right _ _
      exact I1.fpOk hle (I1.hok.fresh hle)
section
variable {X : Cx} {K : PySem.W.Frag} {env env' : List Sd} {e e2 : Expr} {p pos tpos : Pos} {ds ds2 : List PyData} {elts : List Expr} {kk : Nat}
theorem jok_zipTL {a b : Addr} {xs ys : List V} {H : Hp} (hs : SqT K H a xs) (hd : DpAll K H xs ds) (hs2 : SqL K H b ys) (hd2 : DpAll K H ys ds2) : JOk K (ItTL K a b) (zipD ds ds2) H := fun i Hb Ha e1 e2 => by
  have s1 := ex_t (e1.trans e2) hs
  have s2 := ex_l (e1.trans e2) hs2
  refine ⟨fun d h => ?_, fun h => ?_⟩
  · obtain ⟨x, y, hx, hy, rfl⟩ := zipD_get h
    obtain ⟨x', hx', px⟩ := hd.get hx
    obtain ⟨y', hy', py⟩ := hd2.get hy
    refine ⟨⟨xs, ys, x', y', s1, s2, hx', hy'⟩, fun z Ha' hz => ?_⟩
    obtain ⟨T, a', b', rfl, nT, rfl, f, g⟩ := hz
    have ea : a' = x' := Option.some.inj ((f xs s1).symm.trans hx')
    have eb : b' = y' := Option.some.inj ((g ys s2).symm.trans hy')
    subst ea eb
    have en := Ex.new (o := .tup [a', b']) (fresh_back e2 nT)
    exact ⟨_, Up.new e2 nT, .tup (SqT.of upd_same) (.cons (dp_ex (e1.trans en) px) (.cons (dp_ex (e1.trans en) py) .nil))⟩
  · rw [zipD_len] at h
    exact ⟨xs, ys, s1, s2, by rw [hd.len]; omega, by rw [hd2.len]; omega, by rw [hd.len, hd2.len]; omega⟩
theorem ei_zipTL (hm : X.mg "zip" = none) (h : Ed X [e, e2] env env' [.tuple ds, .list ds2]) (hg : Gl X "zip" := by rfl) (hs : starEach [e, e2] X.env = (false, eval e X.env) :: starEach [e2] X.env := by rfl)
    (hpl : (backTo pos (starEach [e2] X.env)).any (·.1) = false := by rfl) : Ei X (.Tuple elts kk tpos) (.Call (.Name "zip" p) [e, e2] [] pos) env env' (zipD ds ds2) := fun β σ H H1 R S q =>
  tiW.of (pi_zipTL hg hm paW hs hpl) (h β σ H H1 _ S fun vs H' H2 S' ex pd => by
    obtain ⟨v, w, rfl, p1, p2⟩ := dpa2 pd
    obtain ⟨a, xs, rfl, hs, hd⟩ := dp_tup p1
    obtain ⟨b, ys, rfl, hs2, hd2⟩ := dp_lst p2
    exact ⟨a, b, xs, ys, rfl, ex_t S'.ex hs, ex_l S'.ex hs2, q _ H' H2 S' ex (jok_zipTL hs hd hs2 hd2)⟩)
end
end Ol
set_option Elab.async false
set_option linter.all false
set_option maxRecDepth 100000
set_option maxHeartbeats 2000000
/-! OlD1: the plain defs. -/
namespace Ol
open PySem L2
open Evl (Ex Ex.refl Ex.trans Ex.new ex_l ex_t fresh_back sz_of sz_lt)
section
variable {P : Program} {w : World} {K : PySem.W.Frag} {mg : Str → Option Value} {base : Heap}
/-! ### sum_of -/
theorem sc12 : FnScope ["pairs", "name", "much"] ["pairs"] (defScope (topS 12)) := ⟨rfl, rfl, rfl, by decide +kernel, rfl, by decide +kernel, by decide +kernel⟩
def snd2 : PyData → Option PyData
  | .tuple [_, b] => some b
  | _ => none
def fst2 : PyData → Option PyData
  | .tuple [a, _] => some a
  | _ => none
theorem filterMap_map {α : Type} (f : α → PyData) (g : PyData → Option PyData) (h : α → PyData) (e : ∀ a, g (f a) = some (h a)) : ∀ l : List α, (l.map f).filterMap g = l.map h
  | [] => rfl
  | a :: l => by rw [List.map_cons, List.filterMap_cons, e, filterMap_map f g h e l]; rfl
def d_sum_of (ds : List PyData) (r : Sd) : Prop := ∃ qs : List (Str × Int), ds = [.list (qs.map numP)] ∧ r = .d (.int (qs.map (·.2)).sum) ∧ qs.length ≤ 1000
theorem ok_sum_of {f : Addr} {fd : FuncData} (F : Fun K "sum_of" "sum_of" (topS 12) f fd) (B : Bl mg) : FnOk P w K mg base CX0 1 f fd ["pairs"] (spD K (RelD d_sum_of)) := by
  refine fn_okD F sc12 (fun ds r h => by obtain ⟨_, rfl, _⟩ := h; rfl) fun cdv A outer s H E hr ds r h => ?_
  obtain ⟨qs, rfl, rfl, hn⟩ := h
  show Fin _ _ [.d (.list (qs.map numP)), .u, .u] [.u, .u, .u] _
  refine fin_ret (ev_sumL (ns := qs.map (·.2)) B.sum (ed1 (Ev.dc (.frz (ev_lcq _ [("name", 1), ("much", 2)] snd2 sc12.nd (ei_list (ev 0))
    (blkOk_by (N := ["pairs", "name", "much"]) (sc := defScope (topS 12)) (by decide +kernel)) (by rw [List.length_map]; omega) (fun d hd => ?_) ⟨rfl, rfl, trivial⟩)) ?_)))
  · obtain ⟨q, _, rfl⟩ := List.mem_map.mp hd
    exact lct_two 1 2 rfl rfl (fun _ _ _ _ _ => tg_tup (tgs_cons (tg_name 1 sc12.nd) (tgs_cons (tg_name 2 sc12.nd) tgs_nil))) fun _ _ _ _ _ => ev 2
  · rw [filterMap_map numP snd2 (fun q => .int q.2) fun _ => rfl, List.map_map]; rfl
/-! ### payers -/
theorem sc6 : FnScope ["book", "payer", "row"] ["book"] (defScope (topS 6)) := ⟨rfl, rfl, rfl, by decide +kernel, rfl, by decide +kernel, by decide +kernel⟩
/-- a book: names, payers with their lists -/
structure Bk where
  names : List Str
  rows : List (Str × List Str)
def rowD (l : List Str) : PyData := .tuple (l.map .str)
def payD (q : Str × List Str) : PyData := .tuple [.str q.1, rowD q.2]
def Bk.d (b : Bk) : PyData := .tuple [rowD b.names, .tuple (b.rows.map payD)]
def d_payers (ds : List PyData) (r : Sd) : Prop := ∃ b : Bk, ds = [b.d] ∧ r = .d (.tuple ((b.rows.map (·.1)).map .str)) ∧ b.rows.length ≤ 1000
theorem ok_payers {f : Addr} {fd : FuncData} (F : Fun K "payers" "payers" (topS 6) f fd) (B : Bl mg) : FnOk P w K mg base CX0 1 f fd ["book"] (spD K (RelD d_payers)) := by
  refine fn_okD F sc6 (fun ds r h => by obtain ⟨_, rfl, _⟩ := h; rfl) fun cdv A outer s H E hr ds r h => ?_
  obtain ⟨b, rfl, rfl, hn⟩ := h
  show Fin _ _ [.d b.d, .u, .u] [.u, .u, .u] _
  refine fin_ret (Ev.dc (ev_tupL B.tuple (ed1 (.frz (ev_lcq _ [("payer", 1), ("row", 2)] fst2 sc6.nd (ei_tup (ds := b.rows.map payD) (ev_ixt (i := 1) rfl (ev 0) ev_int))
    (blkOk_by (N := ["book", "payer", "row"]) (sc := defScope (topS 6)) (by decide +kernel)) (by rw [List.length_map]; omega) (fun d hd => ?_) ⟨rfl, rfl, trivial⟩)))) ?_)
  · obtain ⟨q, _, rfl⟩ := List.mem_map.mp hd
    exact lct_two 1 2 rfl rfl (fun _ _ _ _ _ => tg_tup (tgs_cons (tg_name 1 sc6.nd) (tgs_cons (tg_name 2 sc6.nd) tgs_nil))) fun _ _ _ _ _ => ev 1
  · rw [filterMap_map payD fst2 (fun q => .str q.1) fun _ => rfl, List.map_map]; rfl
/-! ### set_of -/
theorem sc3 : FnScope ["some"] ["some"] (defScope (topS 3)) := ⟨rfl, rfl, rfl, by decide +kernel, rfl, by decide +kernel, by decide +kernel⟩
def d_set_of (ds : List PyData) (r : Sd) : Prop := ∃ ns : List Int, ds = [.tuple (ns.map .int)] ∧ r = .d (.tuple ((setI ns).map .int)) ∧ ns.length < 64
theorem ok_set_of {f : Addr} {fd : FuncData} (F : Fun K "set_of" "set_of" (topS 3) f fd) (B : Bl mg) : FnOk P w K mg base CX0 1 f fd ["some"] (spD K (RelD d_set_of)) := by
  refine fn_okD F sc3 (fun ds r h => by obtain ⟨_, rfl, _⟩ := h; rfl) fun cdv A outer s H E hr ds r h => ?_
  obtain ⟨ns, rfl, rfl, hn⟩ := h
  show Fin _ _ [.d (.tuple (ns.map .int))] [.u] _
  exact fin_ret (ev_tupL B.tuple (ed1 (.frz (ev_srtSet hn B.sorted B.set (ev 0)))))
/-! ### tupled -/
theorem sc4 : FnScope ["value", "part"] ["value"] (defScope (topS 4)) := ⟨rfl, rfl, rfl, by decide +kernel, rfl, by decide +kernel, by decide +kernel⟩
def scalD : PyData → Bool
  | .list _ => false
  | .tuple _ => false
  | .dict _ => false
  | _ => true
theorem kit_tl : kitB "tuple" "list" = some false := by decide +kernel
theorem kit_tt : kitB "tuple" "tuple" = some true := by decide +kernel
theorem kit_scal : ∀ t ∈ ["NoneType", "bool", "int", "str"], kitB t "list" = some false ∧ kitB t "tuple" = some false := by decide +kernel
theorem tyD_scal {d : PyData} (h : scalD d = true) : tyD d ∈ ["NoneType", "bool", "int", "str"] := by
  cases d <;> first | (cases h; done) | (simp [tyD])
/-- tuples in one another, less than k deep -/
def shal : Nat → PyData → Prop
  | 0, _ => False
  | k + 1, .tuple xs => xs.length ≤ 1000 ∧ ∀ x ∈ xs, shal k x
  | _ + 1, d => scalD d = true
def d_tupled (K : PySem.W.Frag) (k : Nat) (ds : List PyData) (r : Sd) : Prop := ∃ d, ds = [d] ∧ shal k d ∧ r = match d with
  | .tuple xs => .c (TfP K xs)
  | d => .d d
theorem filterMap_some : ∀ l : List PyData, l.filterMap some = l
  | [] => rfl
  | a :: l => by rw [List.filterMap_cons, filterMap_some l]
theorem dn_tupled {f : Addr} {fd : FuncData} (F : Fun K "tupled" "tupled" (topS 4) f fd) (hm : mg "tupled" = some (.ref f)) (hb : Binds K fd ["value"] []) (B : Bl mg) : ∀ k, Dn P w K mg base "tupled" ["value"] k (RelD (d_tupled K k))
  | 0 => dn_mk F hm hb ⟨fun vs H Q E ⟨_, _, _, _, _, _, ⟨_, _, _, _, _, hs, _⟩, _⟩ => hs.elim, fun _ _ _ _ _ _ _ _ _ _ _ _ _ ⟨_, _, _, _, _, _, ⟨_, _, _, _, _, hs, _⟩, _⟩ => hs.elim⟩
  | k + 1 => by
    have D := dn_tupled F hm hb B k
    refine dn_mk F hm hb (fn_okD F sc4 (fun ds r h => by obtain ⟨_, rfl, _⟩ := h; rfl) fun cdv A outer s H E hr ds r h => ?_)
    obtain ⟨d, rfl, hs, hr'⟩ := h
    show Fin _ _ [.d d, .u] [.u, .u] _
    have scal : scalD d = true → r = .d d → Fin (cxOf CX0 P w K mg base ["value", "part"] "tupled" (defScope (topS 4)) f cdv A outer s H E).nox (defBody (topS 4)) [.d d, .u] [.u, .u] r := fun h1 h2 => by
      rw [h2]
      refine fin_ret (ev_if (bb := false) (et_val (Ev.dc (ev_isi2 (tn := "list") (un := "tuple") (b1 := false) (b2 := false) B.isinstance B.list B.tuple boot_list' PyProof.Rows.boot_tuple (ev 0) ?_ ?_) rfl)) (fun z => by cases z) fun _ => ev 0)
      · exact (kit_scal _ (tyD_scal h1)).1
      · exact (kit_scal _ (tyD_scal h1)).2
    cases d with
    | tuple xs =>
      rw [hr']
      refine fin_ret (ev_if (bb := true) (et_val (Ev.dc (ev_isi2 (tn := "list") (un := "tuple") (b1 := false) (b2 := true) B.isinstance B.list B.tuple boot_list' PyProof.Rows.boot_tuple (ev (d := .tuple xs) 0) kit_tl kit_tt) rfl)) (fun _ => Ev.cast (ev_tupF B.tuple (ed1 (.frz (ev_lcq _ [("part", 1)] some sc4.nd (ei_tup (ev 0))
        (blkOk_by (N := ["value", "part"]) (sc := defScope (topS 4)) (by decide +kernel)) (by have := hs.1; omega) (fun d hd => ?_) ⟨rfl, trivial⟩)))) ?_) fun z => by cases z)
      · refine lct_one 1 rfl (fun _ _ _ _ _ => tg_name 1 sc4.nd) fun _ _ _ _ _ => ?_
        have hd' := hs.2 d hd
        cases d with
        | tuple ys => exact Ev.ct (ev_f D hr (Nat.le_refl _) (el1 (ev 1)) ⟨[.tuple ys], rfl, rfl, .tuple ys, rfl, hd', rfl⟩)
        | none => exact ev_f D hr (Nat.le_refl _) (el1 (ev 1)) ⟨[.none], rfl, rfl, _, rfl, hd', rfl⟩
        | bool b => exact ev_f D hr (Nat.le_refl _) (el1 (ev 1)) ⟨[.bool b], rfl, rfl, _, rfl, hd', rfl⟩
        | int b => exact ev_f D hr (Nat.le_refl _) (el1 (ev 1)) ⟨[.int b], rfl, rfl, _, rfl, hd', rfl⟩
        | str b => exact ev_f D hr (Nat.le_refl _) (el1 (ev 1)) ⟨[.str b], rfl, rfl, _, rfl, hd', rfl⟩
        | list b => cases k with | zero => exact hd'.elim | succ k => cases hd'
        | dict b => cases k with | zero => exact hd'.elim | succ k => cases hd'
      · rw [filterMap_some]; rfl
    | none => exact scal rfl hr'
    | bool b => exact scal rfl hr'
    | int b => exact scal rfl hr'
    | str b => exact scal rfl hr'
    | list b => cases hs
    | dict b => cases hs
/-! ### lists_table, check_payer, list_of -/
theorem sc7 : FnScope ["book"] ["book"] (defScope (topS 7)) := ⟨rfl, rfl, rfl, by decide +kernel, rfl, by decide +kernel, by decide +kernel⟩
def Bk.kv (b : Bk) : List (L2.Key × PyData) := kvT (b.rows.map fun q => (q.1, rowD q.2))
structure Bk.Ok (b : Bk) : Prop where
  nd : (b.rows.map (·.1)).Nodup
  len : b.rows.length ≤ 100
  row : ∀ q ∈ b.rows, q.2.length ≤ 100
theorem Bk.pairs (b : Bk) : b.kv.map pairK = b.rows.map payD := by unfold Bk.kv kvT; rw [List.map_map, List.map_map]; rfl
theorem Bk.keys {b : Bk} (h : b.Ok) : (b.kv.map (·.1)).Nodup := kvT_nodup (by rw [List.map_map]; exact h.nd)
theorem shal_row {l : List Str} {n : Nat} (h : l.length ≤ 100) : shal (n + 2) (rowD l) := ⟨by rw [List.length_map]; omega, fun x hx => by obtain ⟨y, _, rfl⟩ := List.mem_map.mp hx; exact rfl⟩
theorem shal_rows {b : Bk} (h : b.Ok) : shal 4 (.tuple (b.rows.map payD)) := ⟨by rw [List.length_map]; have := h.len; omega, fun x hx => by
  obtain ⟨q, hq, rfl⟩ := List.mem_map.mp hx
  refine ⟨by show 2 ≤ 1000; decide, fun y hy => ?_⟩
  rcases List.mem_cons.mp hy with z | z
  · subst z; exact rfl
  · rw [List.mem_singleton.mp z]; exact shal_row (h.row q hq)⟩
def d_lists_table (K : PySem.W.Frag) (ds : List PyData) (r : Sd) : Prop := ∃ b : Bk, ds = [b.d] ∧ b.Ok ∧ r = .o none (Kf K b.kv)
theorem ok_lists_table {f : Addr} {fd : FuncData} (F : Fun K "lists_table" "lists_table" (topS 7) f fd) (B : Bl mg) (T : Dn P w K mg base "tupled" ["value"] 4 (RelD (d_tupled K 4))) : FnOk P w K mg base CX0 5 f fd ["book"] (spD K (RelD (d_lists_table K))) := by
  refine fn_okD F sc7 (fun ds r h => by obtain ⟨_, rfl, _⟩ := h; rfl) fun cdv A outer s H E hr ds r h => ?_
  obtain ⟨b, rfl, hb, rfl⟩ := h
  show Fin _ _ [.d b.d] [.u] _
  exact fin_ret (ev_dicP (Bk.pairs b) (Bk.keys hb) B.dict (ev_f T hr (Nat.le_refl _) (el1 (ev_ixt (ds := [rowD b.names, .tuple (b.rows.map payD)]) (i := 1) rfl (ev 0) ev_int)) ⟨[.tuple (b.rows.map payD)], rfl, rfl, _, rfl, shal_rows hb, rfl⟩))
theorem sc8 : FnScope ["book", "payer"] ["book", "payer"] (defScope (topS 8)) := ⟨rfl, rfl, rfl, by decide +kernel, rfl, by decide +kernel, by decide +kernel⟩
def d_check_payer (ds : List PyData) (r : Sd) : Prop := ∃ (b : Bk) (p : Str), ds = [b.d, .str p] ∧ r = .d .none ∧ p ∈ b.rows.map (·.1) ∧ b.rows.length ≤ 1000
theorem ok_check_payer {f : Addr} {fd : FuncData} (F : Fun K "check_payer" "check_payer" (topS 8) f fd) (T : Dn P w K mg base "payers" ["book"] 1 (RelD d_payers)) : FnOk P w K mg base CX0 2 f fd ["book", "payer"] (spD K (RelD d_check_payer)) := by
  refine fn_okD F sc8 (fun ds r h => by obtain ⟨_, _, rfl, _⟩ := h; rfl) fun cdv A outer s H E hr ds r h => ?_
  obtain ⟨b, p, rfl, rfl, hp, hl⟩ := h
  show Fin _ _ [.d b.d, .d (.str p)] [.u, .u] _
  exact fin_ifN (et_cmp op_notIn_seq (rv_ninS (x := p) (ns := b.rows.map (·.1))) (ev 1) (ev_f T hr (Nat.le_refl _) (el1 (ev 0)) ⟨[b.d], rfl, rfl, b, rfl, rfl, hl⟩)) (by rw [decide_eq_true hp]; rfl) fin_nil
theorem sc9 : FnScope ["book", "payer"] ["book", "payer"] (defScope (topS 9)) := ⟨rfl, rfl, rfl, by decide +kernel, rfl, by decide +kernel, by decide +kernel⟩
def d_list_of (ds : List PyData) (r : Sd) : Prop := ∃ (b : Bk) (p : Str) (l : List Str), ds = [b.d, .str p] ∧ b.Ok ∧ (p, l) ∈ b.rows ∧ r = .d (rowD l)
theorem look_kvT {ks : List (Str × PyData)} {p : Str} {v : PyData} (nd : (ks.map (·.1)).Nodup) (h : (p, v) ∈ ks) : lookD (kvT ks) (Sum.inr p) = some v := by
  induction ks with
  | nil => cases h
  | cons q ks ih =>
    rw [List.map_cons, List.nodup_cons] at nd
    unfold lookD kvT at ih ⊢
    rw [List.map_cons, List.find?_cons]
    rcases List.mem_cons.mp h with z | z
    · subst z; simp
    · have e : ¬ (Sum.inr q.1 : L2.Key) = Sum.inr p := fun w => nd.1 (by rw [Sum.inr.inj w]; exact List.mem_map.mpr ⟨_, z, rfl⟩)
      rw [decide_eq_false e]
      exact ih nd.2 z
theorem Bk.look {b : Bk} (h : b.Ok) {p : Str} {l : List Str} (hp : (p, l) ∈ b.rows) : lookD b.kv (Sum.inr p) = some (rowD l) :=
  look_kvT (by rw [List.map_map]; exact h.nd) (List.mem_map.mpr ⟨_, hp, rfl⟩)
theorem ok_list_of {f : Addr} {fd : FuncData} (F : Fun K "list_of" "list_of" (topS 9) f fd) (T : Dn P w K mg base "check_payer" ["book", "payer"] 2 (RelD d_check_payer)) (U : Dn P w K mg base "lists_table" ["book"] 5 (RelD (d_lists_table K))) : FnOk P w K mg base CX0 6 f fd ["book", "payer"] (spD K (RelD d_list_of)) := by
  refine fn_okD F sc9 (fun ds r h => by obtain ⟨_, _, _, rfl, _⟩ := h; rfl) fun cdv A outer s H E hr ds r h => ?_
  obtain ⟨b, p, l, rfl, hb, hp, rfl⟩ := h
  show Fin _ _ [.d b.d, .d (.str p)] [.u, .u] _
  refine fin_cons (r1_expr (ev_f T hr (by decide) (el_cons (ev 0) (el1 (ev 1))) ⟨[b.d, .str p], rfl, rfl, b, p, rfl, rfl, List.mem_map.mpr ⟨_, hp, rfl⟩, by have := hb.len; omega⟩)) ?_
  exact fin_ret (ev_dgetE (k := Sum.inr p) (Bk.look hb hp) (hu_of hr) (ev_f U hr (Nat.le_refl _) (el1 (ev 0)) ⟨[b.d], rfl, rfl, b, rfl, hb, rfl⟩) (ev 1))
/-! ### lay_on -/
theorem sc11 : FnScope ["row", "due", "amount", "found", "rest", "bill", "much"] ["row", "due", "amount"] (defScope (topS 11)) := ⟨rfl, rfl, rfl, by decide +kernel, rfl, by decide +kernel, by decide +kernel⟩
def r_lay_on (K : PySem.W.Frag) : Rel := fun as as' r => ∃ (row bs : List Str) (d : Str → Int) (a : Int), as = [.d (rowD row), .o none (Kf K (dueK bs d)), .d (.int a)] ∧ as' = [.u, .o none (Kf K (dueK bs (layD row d a))), .u] ∧
  r = .d (.list ((layF row d a).map numP)) ∧ row.length ≤ 100 ∧ bs.length ≤ 100 ∧ ∀ b ∈ row, b ∈ bs
theorem layF_len {α : Type} [DecidableEq α] : ∀ (xs : List α) (d : α → Int) (r : Int), (layF xs d r).length ≤ xs.length
  | [], _, _ => Nat.le_refl _
  | b :: bs, d, r => by
    unfold layF
    by_cases c : 0 < min2 r (d b)
    · rw [lay_yes c]; exact Nat.succ_le_succ (layF_len bs _ _)
    · rw [lay_no c]; exact Nat.le_succ_of_le (layF_len bs _ _)
theorem ok_lay_on {f : Addr} {fd : FuncData} (F : Fun K "lay_on" "lay_on" (topS 11) f fd) (B : Bl mg) : FnOk P w K mg base CX0 1 f fd ["row", "due", "amount"] (spD K (r_lay_on K)) := by
  refine fn_ok F sc11 (fun as as' r h => ?_) fun cdv A outer s H E hr vs as as' r h hl hO => ?_
  · obtain ⟨row, bs, d, a, rfl, rfl, _⟩ := h
    refine ⟨rfl, rfl, fun i s h => ?_⟩
    match i, h with
    | 0, h => cases h; exact .inl rfl
    | 1, h => cases h; exact .inr ⟨_, none, _, rfl, rfl⟩
    | 2, h => cases h; exact .inl rfl
  · obtain ⟨row, bs, d, a, rfl, rfl, rfl, h1, h2, h3⟩ := h
    obtain ⟨p, hp⟩ := hO 1 _ _ rfl
    match vs, hl, hp with
    | [v0, v1, v2], _, hp =>
      cases hp
      have e0 : addr [v0, .ref p, v2] [.d (rowD row), .o none (Kf K (dueK bs d)), .d (.int a)] = [.d (rowD row), .o (some p) (Kf K (dueK bs d)), .d (.int a)] := by cases v0 <;> cases v2 <;> rfl
      have e1 : addr [v0, .ref p, v2] [.u, .o none (Kf K (dueK bs (layD row d a))), .u] = [.u, .o (some p) (Kf K (dueK bs (layD row d a))), .u] := by cases v0 <;> cases v2 <;> rfl
      rw [e0, e1]
      show Fin _ _ [.d (rowD row), .o (some p) (Kf K (dueK bs d)), .d (.int a), .u, .u, .u, .u] [.u, .o (some p) (Kf K (dueK bs (layD row d a))), .u, .u, .u, .u, .u] _
      let envs : Nat → List Sd := fun i => [.d (rowD row), .o (some p) (Kf K (dueK bs (layD (row.take i) d a))), .d (.int a), .o none (Lf K ((layF (row.take i) d a).map numP)), .d (.int (layR (row.take i) d a)), .u, .u]
      refine fin_cons (r1_par 3 4 (el_cons (ev_lst ed_nil) (el1 (ev 2))) sc11.nd) ?_
      refine fin_cons (r1_for (ds := row.map .str) [5] envs PassesOwn.never (ei_tup (ev 0)) (by exact ⟨rfl, rfl, rfl, rfl, rfl, trivial⟩) fun i b hb => ?_) ?_
      · obtain ⟨c, hc, rfl⟩ : ∃ c, row[i]? = some c ∧ b = .str c := by
          rw [List.getElem?_map] at hb
          cases q : row[i]? with
          | none => rw [q] at hb; cases hb
          | some c => rw [q] at hb; cases hb; exact ⟨c, rfl, rfl⟩
        have hcb : c ∈ bs := h3 c (List.mem_of_getElem? hc)
        have ht : row.take (i + 1) = row.take i ++ [c] := by rw [List.take_add_one, hc]; rfl
        refine ⟨_, tg_name 5 sc11.nd, ?_⟩
        show Rn _ _ [.d (rowD row), .o (some p) (Kf K (dueK bs (layD (row.take i) d a))), .d (.int a), .o none (Lf K ((layF (row.take i) d a).map numP)), .d (.int (layR (row.take i) d a)), .d (.str c), .u] _
        have hg := look_due (bs := bs) (d := layD (row.take i) d a) hcb
        refine rn_cons (r1_set 6 (ev_min B.min (ed2 (ev 4) (ev_dget 1 hg (hu_of hr) (ev 5)))) sc11.nd) ?_
        show Rn _ _ [.d (rowD row), .o (some p) (Kf K (dueK bs (layD (row.take i) d a))), .d (.int a), .o none (Lf K ((layF (row.take i) d a).map numP)), .d (.int (layR (row.take i) d a)), .d (.str c), .d (.int (min2 (layR (row.take i) d a) (layD (row.take i) d a c)))] _
        have hsn := lay_snoc (row.take i) d a c
        refine rn_cons (r1_if (et_gt (ev 6) ev_int) (fun hpos => ?_) fun hneg => ?_) rn_nil
        · have hpos := of_decide_eq_true hpos
          rw [if_pos hpos] at hsn
          have hF : layF (row.take (i + 1)) d a = layF (row.take i) d a ++ [(c, min2 (layR (row.take i) d a) (layD (row.take i) d a c))] := by rw [ht]; exact congrArg (·.1) hsn
          have hD : layD (row.take (i + 1)) d a = put (layD (row.take i) d a) c (layD (row.take i) d a c - min2 (layR (row.take i) d a) (layD (row.take i) d a c)) := by rw [ht]; exact congrArg (·.2.1) hsn
          have hR : layR (row.take (i + 1)) d a = layR (row.take i) d a - min2 (layR (row.take i) d a) (layD (row.take i) d a c) := by rw [ht]; exact congrArg (·.2.2) hsn
          have hlen : (layF (row.take i) d a).length ≤ row.length := Nat.le_trans (layF_len _ _ _) (by rw [List.length_take]; exact Nat.min_le_right ..)
          refine rn_cons (r1_app 3 (ev_tup (ed2 (ev 5) (ev 6))) rfl rfl (by rw [List.length_map]; omega)) ?_
          refine rn_cons (r1_dput 1 (k := Sum.inr c) (hu_of hr) (ev_sub (ev_dget 1 hg (hu_of hr) (ev 5)) (ev 6)) (ev 5) rfl rfl (by rw [dueK_len]; omega)) ?_
          refine rn_cons (r1_set 4 (ev_sub (ev 4) (ev 6)) sc11.nd) ?_
          refine rn_nil.wk ?_
          show Wk [.d (rowD row), .o (some p) (Kf K (putD (dueK bs (layD (row.take i) d a)) (Sum.inr c) (.int (layD (row.take i) d a c - min2 (layR (row.take i) d a) (layD (row.take i) d a c))))), .d (.int a), .o none (Lf K ((layF (row.take i) d a).map numP ++ [numP (c, min2 (layR (row.take i) d a) (layD (row.take i) d a c))])), .d (.int (layR (row.take i) d a - min2 (layR (row.take i) d a) (layD (row.take i) d a c))), .d (.str c), .d (.int (min2 (layR (row.take i) d a) (layD (row.take i) d a c)))] [.d (rowD row), .o (some p) (Kf K (dueK bs (layD (row.take (i + 1)) d a))), .d (.int a), .o none (Lf K ((layF (row.take (i + 1)) d a).map numP)), .d (.int (layR (row.take (i + 1)) d a)), .u, .u]
          rw [put_due hcb, hF, hD, hR, List.map_append]
          exact ⟨rfl, rfl, rfl, rfl, rfl, trivial⟩
        · have hneg := of_decide_eq_false hneg
          rw [if_neg hneg] at hsn
          refine rn_nil.wk ?_
          show Wk _ [.d (rowD row), .o (some p) (Kf K (dueK bs (layD (row.take (i + 1)) d a))), .d (.int a), .o none (Lf K ((layF (row.take (i + 1)) d a).map numP)), .d (.int (layR (row.take (i + 1)) d a)), .u, .u]
          unfold layD layF layR
          rw [ht, hsn]
          exact ⟨rfl, rfl, rfl, rfl, rfl, trivial⟩
      · show Fin _ _ [.d (rowD row), .o (some p) (Kf K (dueK bs (layD (row.take (row.map PyData.str).length) d a))), .d (.int a), .o none (Lf K ((layF (row.take (row.map PyData.str).length) d a).map numP)), .d (.int (layR (row.take (row.map PyData.str).length) d a)), .u, .u] _ _
        rw [List.length_map, List.take_length]
        refine fin_frz 3 (fin_ret (ev 3) (by exact ⟨rfl, trivial⟩))
end
end Ol
set_option Elab.async false
set_option linter.all false
set_option maxRecDepth 100000
set_option maxHeartbeats 2000000
/-! OlD2: paid, first_open, walked, along, end_of, given_back, sum_back. -/
namespace Ol
open PySem L2
open Evl (Ex Ex.refl Ex.trans Ex.new ex_l ex_t fresh_back sz_of sz_lt)
def rowOf (b : Bk) (p : Str) : List Str := ((b.rows.find? fun q => decide (q.1 = p)).map (·.2)).getD []
theorem mem_rowOf {b : Bk} {p : Str} (h : p ∈ b.rows.map (·.1)) : (p, rowOf b p) ∈ b.rows := by
  unfold rowOf
  cases e : b.rows.find? fun q => decide (q.1 = p) with
  | none =>
    obtain ⟨q, hq, rfl⟩ := List.mem_map.mp h
    have := List.find?_eq_none.mp e q hq
    simp at this
  | some q =>
    have h1 := List.find?_some e
    have h2 := List.mem_of_find?_eq_some e
    have e1 : q.1 = p := of_decide_eq_true h1
    subst e1
    exact h2
/-- a book, names in order, payments -/
structure Sit (b : Bk) (bs : List Str) (ps : List (Str × Int)) : Prop where
  ok : b.Ok
  nd : bs.Nodup
  rise : Rise id bs
  len : bs.length ≤ 100
  pl : ps.length ≤ 20
  pay : ∀ q ∈ ps, q.1 ∈ b.rows.map (·.1)
  sub : ∀ q ∈ b.rows, ∀ x ∈ q.2, x ∈ bs
def dueT (bs : List Str) (d : Str → Int) : PyData := .tuple (dueD bs d)
def paysD (ps : List (Str × Int)) : PyData := .tuple (ps.map numP)
def pay (ps : List (Str × Int)) (i : Nat) : Str × Int := ps.getD i (Str.empty, 0)
theorem pay_get {ps : List (Str × Int)} {i : Nat} (h : i < ps.length) : ps[i]? = some (pay ps i) := by
  unfold pay
  rw [List.getD_eq_getElem?_getD, List.getElem?_eq_getElem h]
  rfl
theorem pay_mem {ps : List (Str × Int)} {i : Nat} (h : i < ps.length) : pay ps i ∈ ps := List.mem_of_getElem? (pay_get h)
def stp (b : Bk) (ps : List (Str × Int)) (d : Str → Int) (i : Nat) : List (Str × Int) × (Str → Int) × Int := lay (rowOf b (pay ps i).1) d (pay ps i).2
def dAt (b : Bk) (ps : List (Str × Int)) (o : List Nat) (d : Str → Int) : Str → Int := o.foldl (fun d i => (stp b ps d i).2.1) d
def walkL (b : Bk) (ps : List (Str × Int)) : List Nat → (Str → Int) → List (List (Str × Int) × (Str → Int))
  | [], _ => []
  | i :: o, d => ((stp b ps d i).1, (stp b ps d i).2.1) :: walkL b ps o (stp b ps d i).2.1
theorem walkL_snoc {b : Bk} {ps : List (Str × Int)} : ∀ (o : List Nat) (d : Str → Int) (i : Nat), walkL b ps (o ++ [i]) d = walkL b ps o d ++ [((stp b ps (dAt b ps o d) i).1, (stp b ps (dAt b ps o d) i).2.1)]
  | [], d, i => rfl
  | j :: o, d, i => by
    show _ :: walkL b ps (o ++ [i]) _ = _
    rw [walkL_snoc o]
    rfl
theorem dAt_snoc {b : Bk} {ps : List (Str × Int)} (o : List Nat) (d : Str → Int) (i : Nat) : dAt b ps (o ++ [i]) d = (stp b ps (dAt b ps o d) i).2.1 := by
  unfold dAt; rw [List.foldl_append]; rfl
theorem walkL_len {b : Bk} {ps : List (Str × Int)} : ∀ (o : List Nat) (d : Str → Int), (walkL b ps o d).length = o.length
  | [], _ => rfl
  | i :: o, d => congrArg (· + 1) (walkL_len o _)
def itemD (bs : List Str) (q : List (Str × Int) × (Str → Int)) : PyData := .tuple [.list (q.1.map numP), dueT bs q.2]
def ordD (o : List Nat) : PyData := .tuple (o.map fun (i : Nat) => .int i)
theorem shal_due {bs : List Str} {d : Str → Int} {n : Nat} (h : bs.length ≤ 100) : shal (n + 3) (dueT bs d) := ⟨by unfold dueD; rw [List.length_map]; omega, fun x hx => by
  unfold dueD at hx
  obtain ⟨y, _, rfl⟩ := List.mem_map.mp hx
  refine ⟨by show 2 ≤ 1000; decide, fun z hz => ?_⟩
  rcases List.mem_cons.mp hz with w | w
  · subst w; exact rfl
  · rw [List.mem_singleton.mp w]; exact rfl⟩
theorem shal_pays {ps : List (Str × Int)} {n : Nat} (h : ps.length ≤ 20) : shal (n + 3) (paysD ps) := ⟨by rw [List.length_map]; omega, fun x hx => by
  obtain ⟨y, _, rfl⟩ := List.mem_map.mp hx
  refine ⟨by show 2 ≤ 1000; decide, fun z hz => ?_⟩
  rcases List.mem_cons.mp hz with w | w
  · subst w; exact rfl
  · rw [List.mem_singleton.mp w]; exact rfl⟩
section
variable {X : Cx} {env env1 : List Sd} {e : Expr} {p p2 pos : Pos} {n : Nat}
/-- tupled(e) -/
theorem ev_tupd {xs : List PyData} (T : Dn X.prog X.w X.K X.mg X.base "tupled" ["value"] 4 (RelD (d_tupled X.K 4))) (hr : Room n X.A) (hn : 4 ≤ n) (hs : shal 4 (.tuple xs)) (h : Ev X e env env1 (.d (.tuple xs))) (hg : Gl X "tupled" := by rfl) (he : starEach [e] X.env = (false, eval e X.env) :: starEach [] X.env := by rfl) :
    Ev X (.Call (.Name "tupled" p) [e] [] pos) env env1 (.c (TfP X.K xs)) := ev_f T hr hn (el1 h he) ⟨[.tuple xs], rfl, rfl, _, rfl, hs, rfl⟩ (hg := hg) (he := he)
/-- dict(tupled(e)), e what is due -/
theorem ev_dues {bs : List Str} {d : Str → Int} (T : Dn X.prog X.w X.K X.mg X.base "tupled" ["value"] 4 (RelD (d_tupled X.K 4))) (hr : Room n X.A) (hn : 4 ≤ n) (hm : X.mg "dict" = none) (nd : bs.Nodup) (hl : bs.length ≤ 100) (h : Ev X e env env1 (.d (dueT bs d))) (hg : Gl X "tupled" := by rfl) (he : starEach [e] X.env = (false, eval e X.env) :: starEach [] X.env := by rfl) (hg2 : Gl X "dict" := by rfl) (hc : X.calm = true := by rfl)
    (he2 : starEach [.Call (.Name "tupled" p2) [e] [] pos] X.env = (false, eval (.Call (.Name "tupled" p2) [e] [] pos) X.env) :: starEach [] X.env := by rfl) {p3 pos3 : Pos} :
    Ev X (.Call (.Name "dict" p3) [.Call (.Name "tupled" p2) [e] [] pos] [] pos3) env env1 (.o none (Kf X.K (dueK bs d))) :=
  ev_dicP (dueK_pairs bs d) (kvT_nodup (by rw [dueP_keys]; exact nd)) hm (ev_tupd T hr hn (shal_due hl) h hg he) hg2 hc he2
end
section
variable {P : Program} {w : World} {K : PySem.W.Frag} {mg : Str → Option Value} {base : Heap}
abbrev TupD (P : Program) (w : World) (K : PySem.W.Frag) (mg : Str → Option Value) (base : Heap) : Prop := Dn P w K mg base "tupled" ["value"] 4 (RelD (d_tupled K 4))
/-! ### paid -/
theorem sc14 : FnScope ["book", "dues", "payer", "amount"] ["book", "dues", "payer", "amount"] (defScope (topS 14)) := ⟨rfl, rfl, rfl, by decide +kernel, rfl, by decide +kernel, by decide +kernel⟩
def d_paid (ds : List PyData) (r : Sd) : Prop := ∃ (b : Bk) (bs : List Str) (d : Str → Int) (p : Str) (a : Int), ds = [b.d, dueT bs d, .str p, .int a] ∧ b.Ok ∧ bs.Nodup ∧ bs.length ≤ 100 ∧ p ∈ b.rows.map (·.1) ∧ (∀ x ∈ rowOf b p, x ∈ bs) ∧ r = .d (.tuple ((layF (rowOf b p) d a).map numP))
theorem ok_paid {f : Addr} {fd : FuncData} (F : Fun K "paid" "paid" (topS 14) f fd) (B : Bl mg) (T : TupD P w K mg base) (L : Dn P w K mg base "list_of" ["book", "payer"] 6 (RelD d_list_of)) (Y : Dn P w K mg base "lay_on" ["row", "due", "amount"] 1 (r_lay_on K)) :
    FnOk P w K mg base CX0 7 f fd ["book", "dues", "payer", "amount"] (spD K (RelD d_paid)) := by
  refine fn_okD F sc14 (fun ds r h => by obtain ⟨_, _, _, _, _, rfl, _⟩ := h; rfl) fun cdv A outer s H E hr ds r h => ?_
  obtain ⟨b, bs, d, p, a, rfl, hb, nd, hl, hp, hsub, rfl⟩ := h
  show Fin _ _ [.d b.d, .d (dueT bs d), .d (.str p), .d (.int a)] [.u, .u, .u, .u] _
  exact fin_ret (ev_tupL B.tuple (ed1 (ev_f Y hr (by decide) (el_cons (ev_f L hr (Nat.le_refl _) (el_cons (ev 0) (el1 (ev 2))) ⟨[b.d, .str p], rfl, rfl, b, p, _, rfl, hb, mem_rowOf hp, rfl⟩) (el_cons (ev_dues T hr (by decide) B.dict nd hl (ev 1)) (el1 (ev 3))))
    ⟨rowOf b p, bs, d, a, rfl, rfl, rfl, hb.row _ (mem_rowOf hp), hl, hsub⟩)))
/-! ### first_open -/
theorem sc13 : FnScope ["book", "dues", "payer", "due", "found", "bill"] ["book", "dues", "payer"] (defScope (topS 13)) := ⟨rfl, rfl, rfl, by decide +kernel, rfl, by decide +kernel, by decide +kernel⟩
/-- of an empty list -/
def d_first_open (ds : List PyData) (r : Sd) : Prop := ∃ (b : Bk) (bs : List Str) (d : Str → Int) (p : Str), ds = [b.d, dueT bs d, .str p] ∧ b.Ok ∧ bs.Nodup ∧ bs.length ≤ 100 ∧ (p, []) ∈ b.rows ∧ r = .d .none
theorem ok_first_open {f : Addr} {fd : FuncData} (F : Fun K "first_open" "first_open" (topS 13) f fd) (B : Bl mg) (T : TupD P w K mg base) (L : Dn P w K mg base "list_of" ["book", "payer"] 6 (RelD d_list_of)) :
    FnOk P w K mg base CX0 7 f fd ["book", "dues", "payer"] (spD K (RelD d_first_open)) := by
  refine fn_okD F sc13 (fun ds r h => by obtain ⟨_, _, _, _, rfl, _⟩ := h; rfl) fun cdv A outer s H E hr ds r h => ?_
  obtain ⟨b, bs, d, p, rfl, hb, nd, hl, hp, rfl⟩ := h
  show Fin _ _ [.d b.d, .d (dueT bs d), .d (.str p), .u, .u, .u] [.u, .u, .u, .u, .u, .u] _
  refine fin_cons (r1_set 3 (ev_dues T hr (by decide) B.dict nd hl (ev 1)) sc13.nd) ?_
  show Fin _ _ [.d b.d, .d (dueT bs d), .d (.str p), .o none (Kf K (dueK bs d)), .u, .u] _ _
  refine fin_cons (r1_setLcp (E := [.d b.d, .d (dueT bs d), .d (.str p), .o none (Kf K (dueK bs d)), .u, .u]) (ds := []) 4 [("bill", 5)] some sc13.nd
    (ei_tup (ev_f L hr (Nat.le_refl _) (el_cons (ev 0) (el1 (ev 2))) ⟨[b.d, .str p], rfl, rfl, b, p, [], rfl, hb, hp, rfl⟩)) (blkOk_by (N := ["book", "dues", "payer", "due", "found", "bill"]) (sc := defScope (topS 13)) (by decide +kernel))
    (AllU.get (vs := [5]) ⟨rfl, trivial⟩) (by decide) (fun d hd => by cases hd) (Nat.le_of_ble_eq_true rfl) (sw_true rfl rfl rfl (by decide +kernel))) ?_
  show Fin _ _ [.d b.d, .d (dueT bs d), .d (.str p), .o none (Kf K (dueK bs d)), .o none (Lf K []), .u] _ _
  exact fin_frz 4 (fin_ret (ev_if (bb := false) (et_gt (i := 0) (j := 0) (ev_lenL (ds := []) B.len (ed1 (ev 4))) ev_int) (fun z => by cases z) fun _ => ev_non))
/-! ### walked -/
theorem sc15 : FnScope ["book", "dues", "payments", "order", "table", "due", "found", "place", "payer", "amount", "on"] ["book", "dues", "payments", "order"] (defScope (topS 15)) := ⟨rfl, rfl, rfl, by decide +kernel, rfl, by decide +kernel, by decide +kernel⟩
def d_walked (ds : List PyData) (r : Sd) : Prop := ∃ (b : Bk) (bs : List Str) (ps : List (Str × Int)) (d : Str → Int) (o : List Nat), ds = [b.d, dueT bs d, paysD ps, ordD o] ∧ Sit b bs ps ∧ o.length ≤ 20 ∧ (∀ i ∈ o, i < ps.length) ∧ r = .d (.list ((walkL b ps o d).map (itemD bs)))
theorem ok_walked {f : Addr} {fd : FuncData} (F : Fun K "walked" "walked" (topS 15) f fd) (B : Bl mg) (T : TupD P w K mg base) (U : Dn P w K mg base "lists_table" ["book"] 5 (RelD (d_lists_table K))) (Y : Dn P w K mg base "lay_on" ["row", "due", "amount"] 1 (r_lay_on K)) :
    FnOk P w K mg base CX0 6 f fd ["book", "dues", "payments", "order"] (spD K (RelD d_walked)) := by
  refine fn_okD F sc15 (fun ds r h => by obtain ⟨_, _, _, _, _, rfl, _⟩ := h; rfl) fun cdv A outer s H E hr ds r h => ?_
  obtain ⟨b, bs, ps, d, o, rfl, S, ho, hi, rfl⟩ := h
  show Fin _ _ [.d b.d, .d (dueT bs d), .d (paysD ps), .d (ordD o), .u, .u, .u, .u, .u, .u, .u] [.u, .u, .u, .u, .u, .u, .u, .u, .u, .u, .u] _
  let envs : Nat → List Sd := fun i => [.d b.d, .d (dueT bs d), .d (paysD ps), .d (ordD o), .o none (Kf K b.kv), .o none (Kf K (dueK bs (dAt b ps (o.take i) d))), .o none (Lf K ((walkL b ps (o.take i) d).map (itemD bs))), .u, .u, .u, .u]
  refine fin_cons (r1_par3 4 5 6 (el_cons (ev_f U hr (Nat.le_refl _) (el1 (ev 0)) ⟨[b.d], rfl, rfl, b, rfl, S.ok, rfl⟩) (el_cons (ev_dues T hr (by decide) B.dict S.nd S.len (ev 1)) (el1 (ev_lst ed_nil)))) sc15.nd) ?_
  refine fin_cons (r1_for (ds := o.map fun (i : Nat) => .int i) [7] envs PassesOwn.never (ei_tup (ev 3)) (by exact ⟨rfl, rfl, rfl, rfl, rfl, rfl, rfl, trivial⟩) fun i pl hpl => ?_) ?_
  · obtain ⟨c, hc, rfl⟩ : ∃ c, o[i]? = some c ∧ pl = .int (c : Nat) := by
      rw [List.getElem?_map] at hpl
      cases q : o[i]? with
      | none => rw [q] at hpl; cases hpl
      | some c => rw [q] at hpl; cases hpl; exact ⟨c, rfl, rfl⟩
    have hcp : c < ps.length := hi c (List.mem_of_getElem? hc)
    have ht : o.take (i + 1) = o.take i ++ [c] := by rw [List.take_add_one, hc]; rfl
    have hg : (ps.map numP)[c]? = some (numP (pay ps c)) := by rw [List.getElem?_map, pay_get hcp]; rfl
    have hrow : ((pay ps c).1, rowOf b (pay ps c).1) ∈ b.rows := mem_rowOf (S.pay _ (pay_mem hcp))
    refine ⟨_, tg_name 7 sc15.nd, ?_⟩
    generalize hd0 : dAt b ps (o.take i) d = d0
    show Rn _ _ [.d b.d, .d (dueT bs d), .d (paysD ps), .d (ordD o), .o none (Kf K b.kv), .o none (Kf K (dueK bs (dAt b ps (o.take i) d))), .o none (Lf K ((walkL b ps (o.take i) d).map (itemD bs))), .d (.int (c : Nat)), .u, .u, .u] _
    rw [hd0]
    refine rn_cons (r1_asg (d := numP (pay ps c)) (ev_ixt (atI_nat hg) (Ev.ct (ev_tupd T hr (by decide) (shal_pays S.pl) (ev 2))) (ev 7)) (tg_tup (tgs_cons (tg_name 8 sc15.nd) (tgs_cons (tg_name 9 sc15.nd) tgs_nil)))) ?_
    show Rn _ _ [.d b.d, .d (dueT bs d), .d (paysD ps), .d (ordD o), .o none (Kf K b.kv), .o none (Kf K (dueK bs d0)), .o none (Lf K ((walkL b ps (o.take i) d).map (itemD bs))), .d (.int (c : Nat)), .d (.str (pay ps c).1), .d (.int (pay ps c).2), .u] _
    refine rn_cons (r1_set 10 (ev_fB 1 5 Y hr (by decide) (el_cons (ev_dget 4 (k := Sum.inr (pay ps c).1) (Bk.look S.ok hrow) (hu_of hr) (ev 8)) (el_b 5 (el1 (ev 9))))
      ⟨rowOf b (pay ps c).1, bs, d0, (pay ps c).2, rfl, rfl, rfl, S.ok.row _ hrow, S.len, S.sub _ hrow⟩) sc15.nd) ?_
    show Rn _ _ [.d b.d, .d (dueT bs d), .d (paysD ps), .d (ordD o), .o none (Kf K b.kv), .o none (Kf K (dueK bs (stp b ps d0 c).2.1)), .o none (Lf K ((walkL b ps (o.take i) d).map (itemD bs))), .d (.int (c : Nat)), .d (.str (pay ps c).1), .d (.int (pay ps c).2), .d (.list ((stp b ps d0 c).1.map numP))] _
    refine rn_cons (r1_app 6 (ev_tup (ed2 (ev 10) (ev_tupL B.tuple (ed1 (.frz (ev_srtI 5 (ks := dueP bs (stp b ps d0 c).2.1) B.sorted (by rw [dueP_keys]; exact S.nd))))))) rfl rfl (by rw [List.length_map, walkL_len, List.length_take]; omega)) ?_
    refine rn_nil.wk ?_
    have e1 : dAt b ps (o.take (i + 1)) d = (stp b ps d0 c).2.1 := by rw [ht, dAt_snoc, hd0]
    have e2 : (walkL b ps (o.take (i + 1)) d).map (itemD bs) = (walkL b ps (o.take i) d).map (itemD bs) ++ [.tuple [.list ((stp b ps d0 c).1.map numP), .tuple ((srt (fun q : Str × PyData => q.1) (dueP bs (stp b ps d0 c).2.1)).map pairD)]] := by
      rw [ht, walkL_snoc, hd0, List.map_append, srt_due S.rise S.nd, dueP_pairs]; rfl
    show Wk _ [.d b.d, .d (dueT bs d), .d (paysD ps), .d (ordD o), .o none (Kf K b.kv), .o none (Kf K (dueK bs (dAt b ps (o.take (i + 1)) d))), .o none (Lf K ((walkL b ps (o.take (i + 1)) d).map (itemD bs))), .u, .u, .u, .u]
    rw [e1, e2]
    exact ⟨rfl, rfl, rfl, rfl, rfl, rfl, rfl, trivial⟩
  · show Fin _ _ [.d b.d, .d (dueT bs d), .d (paysD ps), .d (ordD o), .o none (Kf K b.kv), .o none (Kf K (dueK bs (dAt b ps (o.take (o.map fun (i : Nat) => PyData.int i).length) d))), .o none (Lf K ((walkL b ps (o.take (o.map fun (i : Nat) => PyData.int i).length) d).map (itemD bs))), .u, .u, .u, .u] _ _
    rw [List.length_map, List.take_length]
    exact fin_frz 6 (fin_ret (ev 6))
/-! ### along, end_of -/
theorem sc16 : FnScope ["book", "dues", "payments", "order", "on", "opens"] ["book", "dues", "payments", "order"] (defScope (topS 16)) := ⟨rfl, rfl, rfl, by decide +kernel, rfl, by decide +kernel, by decide +kernel⟩
def d_along (ds : List PyData) (r : Sd) : Prop := ∃ (b : Bk) (bs : List Str) (ps : List (Str × Int)) (d : Str → Int) (o : List Nat), ds = [b.d, dueT bs d, paysD ps, ordD o] ∧ Sit b bs ps ∧ o.length ≤ 20 ∧ (∀ i ∈ o, i < ps.length) ∧ r = .d (.list ((walkL b ps o d).map fun q => dueT bs q.2))
theorem ok_along {f : Addr} {fd : FuncData} (F : Fun K "along" "along" (topS 16) f fd) (W : Dn P w K mg base "walked" ["book", "dues", "payments", "order"] 6 (RelD d_walked)) :
    FnOk P w K mg base CX0 7 f fd ["book", "dues", "payments", "order"] (spD K (RelD d_along)) := by
  refine fn_okD F sc16 (fun ds r h => by obtain ⟨_, _, _, _, _, rfl, _⟩ := h; rfl) fun cdv A outer s H E hr ds r h => ?_
  obtain ⟨b, bs, ps, d, o, rfl, S, ho, hi, rfl⟩ := h
  show Fin _ _ [.d b.d, .d (dueT bs d), .d (paysD ps), .d (ordD o), .u, .u] [.u, .u, .u, .u, .u, .u] _
  refine fin_ret (Ev.dc (.frz (ev_lcq _ [("on", 4), ("opens", 5)] snd2 sc16.nd (ei_list (ev_f W hr (Nat.le_refl _) (el_cons (ev 0) (el_cons (ev 1) (el_cons (ev 2) (el1 (ev 3))))) ⟨[b.d, dueT bs d, paysD ps, ordD o], rfl, rfl, b, bs, ps, d, o, rfl, S, ho, hi, rfl⟩))
    (blkOk_by (N := ["book", "dues", "payments", "order", "on", "opens"]) (sc := defScope (topS 16)) (by decide +kernel)) (by rw [List.length_map, walkL_len]; omega) (fun d hd => ?_) ⟨rfl, rfl, trivial⟩)) ?_)
  · obtain ⟨q, _, rfl⟩ := List.mem_map.mp hd
    exact lct_two 4 5 rfl rfl (fun _ _ _ _ _ => tg_tup (tgs_cons (tg_name 4 sc16.nd) (tgs_cons (tg_name 5 sc16.nd) tgs_nil))) fun _ _ _ _ _ => ev 5
  · rw [filterMap_map (itemD bs) snd2 (fun q => dueT bs q.2) fun _ => rfl]
theorem sc17 : FnScope ["book", "dues", "payments", "order"] ["book", "dues", "payments", "order"] (defScope (topS 17)) := ⟨rfl, rfl, rfl, by decide +kernel, rfl, by decide +kernel, by decide +kernel⟩
def d_end_of (ds : List PyData) (r : Sd) : Prop := ∃ (b : Bk) (bs : List Str) (ps : List (Str × Int)) (d : Str → Int) (o : List Nat), ds = [b.d, dueT bs d, paysD ps, ordD o] ∧ Sit b bs ps ∧ o.length ≤ 20 ∧ (∀ i ∈ o, i < ps.length) ∧ r = .d (dueT bs (dAt b ps o d))
theorem walk_last {b : Bk} {ps : List (Str × Int)} {bs : List Str} : ∀ (o : List Nat) (d : Str → Int), ∃ l, (dueT bs d) :: (walkL b ps o d).map (fun q => dueT bs q.2) = l ++ [dueT bs (dAt b ps o d)]
  | [], d => ⟨[], rfl⟩
  | i :: o, d => by
    obtain ⟨l, h⟩ := walk_last (b := b) (ps := ps) (bs := bs) o (stp b ps d i).2.1
    exact ⟨dueT bs d :: l, congrArg (dueT bs d :: ·) h⟩
theorem ok_end_of {f : Addr} {fd : FuncData} (F : Fun K "end_of" "end_of" (topS 17) f fd) (T : TupD P w K mg base) (W : Dn P w K mg base "along" ["book", "dues", "payments", "order"] 7 (RelD d_along)) :
    FnOk P w K mg base CX0 8 f fd ["book", "dues", "payments", "order"] (spD K (RelD d_end_of)) := by
  refine fn_okD F sc17 (fun ds r h => by obtain ⟨_, _, _, _, _, rfl, _⟩ := h; rfl) fun cdv A outer s H E hr ds r h => ?_
  obtain ⟨b, bs, ps, d, o, rfl, S, ho, hi, rfl⟩ := h
  show Fin _ _ [.d b.d, .d (dueT bs d), .d (paysD ps), .d (ordD o)] [.u, .u, .u, .u] _
  obtain ⟨l, hl⟩ := walk_last (b := b) (ps := ps) (bs := bs) o d
  refine fin_ret (ev_ixl (i := -1) (ds := dueT bs d :: ((walkL b ps o d).map (fun q => dueT bs q.2) ++ [])) ?_ (.frz (ev_lst (ed_cons (Ev.ct (ev_tupd T hr (by decide) (shal_due S.len) (ev 1))) (ed_starL' (ev_f W hr (Nat.le_refl _) (el_cons (ev 0) (el_cons (ev 1) (el_cons (ev 2) (el1 (ev 3))))) ⟨[b.d, dueT bs d, paysD ps, ordD o], rfl, rfl, b, bs, ps, d, o, rfl, S, ho, hi, rfl⟩) ed_nil)) ?_)) (ev_neg ev_int))
  · rw [List.append_nil, hl]; exact atI_last _ _
  · rw [List.length_cons, List.append_nil, List.length_map, walkL_len]; omega
end
end Ol
set_option Elab.async false
set_option linter.all false
set_option maxRecDepth 100000
set_option maxHeartbeats 2000000
/-! OlD3: given_back, sum_back. -/
namespace Ol
open PySem L2
open Evl (Ex Ex.refl Ex.trans Ex.new ex_l ex_t fresh_back sz_of sz_lt)
def gbL (b : Bk) (ps : List (Str × Int)) : List Nat → (Str → Int) → List (Nat × Int)
  | [], _ => []
  | i :: o, d => (i, (pay ps i).2 - ((stp b ps d i).1.map (·.2)).sum) :: gbL b ps o (stp b ps d i).2.1
theorem gbL_snoc {b : Bk} {ps : List (Str × Int)} : ∀ (o : List Nat) (d : Str → Int) (i : Nat), gbL b ps (o ++ [i]) d = gbL b ps o d ++ [(i, (pay ps i).2 - ((stp b ps (dAt b ps o d) i).1.map (·.2)).sum)]
  | [], d, i => rfl
  | j :: o, d, i => by
    show _ :: gbL b ps (o ++ [i]) _ = _
    rw [gbL_snoc o]
    rfl
theorem gbL_keys {b : Bk} {ps : List (Str × Int)} : ∀ (o : List Nat) (d : Str → Int), (gbL b ps o d).map (·.1) = o
  | [], _ => rfl
  | i :: o, d => congrArg (i :: ·) (gbL_keys o _)
theorem gbL_len {b : Bk} {ps : List (Str × Int)} (o : List Nat) (d : Str → Int) : (gbL b ps o d).length = o.length := by
  have := congrArg List.length (gbL_keys (b := b) (ps := ps) o d); rwa [List.length_map] at this
def gbK (l : List (Nat × Int)) : List (L2.Key × PyData) := l.map fun q => (Sum.inl (q.1 : Int), .int q.2)
def gbv (l : List (Nat × Int)) (i : Nat) : Int := ((l.find? fun q => decide (q.1 = i)).map (·.2)).getD 0
theorem look_gb : ∀ {l : List (Nat × Int)} {i : Nat}, i ∈ l.map (·.1) → lookD (gbK l) (Sum.inl (i : Int)) = some (.int (gbv l i))
  | q :: l, i, h => by
    unfold lookD gbK gbv
    rw [List.map_cons, List.find?_cons, List.find?_cons]
    by_cases e : q.1 = i
    · subst e; simp
    · have e' : ¬ (Sum.inl (q.1 : Int) : L2.Key) = Sum.inl (i : Int) := fun z => e (by have := Sum.inl.inj z; omega)
      rw [decide_eq_false e, decide_eq_false e']
      refine look_gb (l := l) ?_
      rw [List.map_cons, List.mem_cons] at h
      rcases h with z | z
      · exact absurd z.symm e
      · exact z
theorem put_gb {l : List (Nat × Int)} {i : Nat} {v : Int} (h : i ∉ l.map (·.1)) : putD (gbK l) (Sum.inl (i : Int)) (.int v) = gbK (l ++ [(i, v)]) := by
  have hn : ((gbK l).any fun u => decide (u.1 = Sum.inl (i : Int))) = false := by
    rw [List.any_eq_false]
    intro u hu hd
    unfold gbK at hu
    obtain ⟨q, hq, rfl⟩ := List.mem_map.mp hu
    have e := Sum.inl.inj (of_decide_eq_true hd)
    exact h (List.mem_map.mpr ⟨q, hq, by omega⟩)
  unfold putD
  rw [if_neg (by rw [hn]; exact Bool.false_ne_true)]
  unfold gbK
  rw [List.map_append]
  rfl
/-- how much each gets back, by place -/
def gvs (b : Bk) (ps : List (Str × Int)) (d : Str → Int) (o : List Nat) : List Int := (List.range ps.length).map (gbv (gbL b ps o d))
section
variable {P : Program} {w : World} {K : PySem.W.Frag} {mg : Str → Option Value} {base : Heap}
theorem sc19 : FnScope ["book", "dues", "payments", "order", "found", "place", "on", "opens"] ["book", "dues", "payments", "order"] (defScope (topS 19)) := ⟨rfl, rfl, rfl, by decide +kernel, rfl, by decide +kernel, by decide +kernel⟩
structure Ord (ps : List (Str × Int)) (o : List Nat) : Prop where
  nd : o.Nodup
  lt : ∀ i ∈ o, i < ps.length
  all : ∀ i, i < ps.length → i ∈ o
  len : o.length ≤ 20
def gbG (l : List (Nat × Int)) : PyData → Option PyData
  | .int i => some (.int (gbv l i.toNat))
  | _ => none
def d_given_back (ds : List PyData) (r : Sd) : Prop := ∃ (b : Bk) (bs : List Str) (ps : List (Str × Int)) (d : Str → Int) (o : List Nat), ds = [b.d, dueT bs d, paysD ps, ordD o] ∧ Sit b bs ps ∧ Ord ps o ∧ r = .d (.tuple ((gvs b ps d o).map .int))
theorem ok_given_back {f : Addr} {fd : FuncData} (F : Fun K "given_back" "given_back" (topS 19) f fd) (B : Bl mg) (W : Dn P w K mg base "walked" ["book", "dues", "payments", "order"] 6 (RelD d_walked)) (Y : Dn P w K mg base "sum_of" ["pairs"] 1 (RelD d_sum_of)) :
    FnOk P w K mg base CX0 7 f fd ["book", "dues", "payments", "order"] (spD K (RelD d_given_back)) := by
  refine fn_okD F sc19 (fun ds r h => by obtain ⟨_, _, _, _, _, rfl, _⟩ := h; rfl) fun cdv A outer s H E hr ds r h => ?_
  obtain ⟨b, bs, ps, d, o, rfl, S, O, rfl⟩ := h
  show Fin _ _ [.d b.d, .d (dueT bs d), .d (paysD ps), .d (ordD o), .u, .u, .u, .u] [.u, .u, .u, .u, .u, .u, .u, .u] _
  let envs : Nat → List Sd := fun i => [.d b.d, .d (dueT bs d), .d (paysD ps), .d (ordD o), .o none (Kf K (gbK (gbL b ps (o.take i) d))), .u, .u, .u]
  refine fin_cons (r1_set 4 ev_dnew sc19.nd) ?_
  refine fin_cons (r1_for [5, 6, 7] envs PassesOwn.never (ei_zipTL (ds := o.map fun (i : Nat) => .int i) (ds2 := (walkL b ps o d).map (itemD bs)) B.zip (ed2 (ev 3) (ev_f W hr (by decide) (el_cons (ev 0) (el_cons (ev 1) (el_cons (ev 2) (el1 (ev 3))))) ⟨[b.d, dueT bs d, paysD ps, ordD o], rfl, rfl, b, bs, ps, d, o, rfl, S, O.len, O.lt, rfl⟩)))
    (by exact ⟨rfl, rfl, rfl, rfl, rfl, trivial⟩) fun i pl hpl => ?_) ?_
  · obtain ⟨u, v, hu, hv, rfl⟩ := zipD_get hpl
    obtain ⟨c, hc, rfl⟩ : ∃ c, o[i]? = some c ∧ u = .int (c : Nat) := by
      rw [List.getElem?_map] at hu
      cases q : o[i]? with
      | none => rw [q] at hu; cases hu
      | some c => rw [q] at hu; cases hu; exact ⟨c, rfl, rfl⟩
    have hil : i < o.length := (List.getElem?_eq_some_iff.mp hc).1
    have hcp : c < ps.length := O.lt c (List.mem_of_getElem? hc)
    have ht : o.take (i + 1) = o.take i ++ [c] := by rw [List.take_add_one, hc]; rfl
    have hsp : o = o.take i ++ c :: o.drop (i + 1) := by
      have e := List.getElem?_eq_some_iff.mp hc
      rw [← e.2]
      exact (List.take_append_drop i o).symm.trans (by rw [List.drop_eq_getElem_cons hil])
    have hq : (walkL b ps o d)[i]? = some ((stp b ps (dAt b ps (o.take i) d) c).1, (stp b ps (dAt b ps (o.take i) d) c).2.1) := by
      have gen : ∀ (l : List Nat) (m : List Nat) (c : Nat) (d : Str → Int), (walkL b ps (l ++ c :: m) d)[l.length]? = some ((stp b ps (dAt b ps l d) c).1, (stp b ps (dAt b ps l d) c).2.1) := by
        intro l
        induction l with
        | nil => intro m c d; rfl
        | cons j l ih => intro m c d; exact ih m c _
      have := gen (o.take i) (o.drop (i + 1)) c d
      rw [← hsp, List.length_take, Nat.min_eq_left (Nat.le_of_lt hil)] at this
      exact this
    have ev : v = itemD bs ((stp b ps (dAt b ps (o.take i) d) c).1, (stp b ps (dAt b ps (o.take i) d) c).2.1) := by
      rw [List.getElem?_map, hq] at hv
      exact (Option.some.inj hv).symm
    subst ev
    generalize hd0 : dAt b ps (o.take i) d = d0
    have hg : (ps.map numP)[c]? = some (numP (pay ps c)) := by rw [List.getElem?_map, pay_get hcp]; rfl
    have hstp : (stp b ps d0 c).1.length ≤ 100 := Nat.le_trans (layF_len _ _ _) (S.ok.row _ (mem_rowOf (S.pay _ (pay_mem hcp))))
    have hnew : c ∉ (gbL b ps (o.take i) d).map (·.1) := by
      rw [gbL_keys]
      intro hm
      have nd := O.nd
      rw [hsp, List.nodup_append] at nd
      exact nd.2.2 c hm c (List.mem_cons_self ..) rfl
    refine ⟨_, tg_tup (tgs_cons (tg_name 5 sc19.nd) (tgs_cons (tg_tup (tgs_cons (tg_name 6 sc19.nd) (tgs_cons (tg_name 7 sc19.nd) tgs_nil))) tgs_nil)), ?_⟩
    show Rn _ _ [.d b.d, .d (dueT bs d), .d (paysD ps), .d (ordD o), .o none (Kf K (gbK (gbL b ps (o.take i) d))), .d (.int (c : Nat)), .d (.list ((stp b ps d0 c).1.map numP)), .d (dueT bs (stp b ps d0 c).2.1)] _
    refine rn_cons (r1_dput 4 (k := Sum.inl (c : Int)) (hu_of hr) (ev_sub (ev_ixt (i := 1) (ds := [.str (pay ps c).1, .int (pay ps c).2]) rfl (ev_ixt (atI_nat hg) (ev 2) (ev 5)) ev_int)
      (ev_f Y hr (by decide) (el1 (ev 6)) ⟨[.list ((stp b ps d0 c).1.map numP)], rfl, rfl, _, rfl, rfl, by omega⟩)) (ev 5) rfl rfl (by unfold gbK; rw [List.length_map, gbL_len, List.length_take]; have := O.len; omega)) ?_
    refine rn_nil.wk ?_
    show Wk [_, _, _, _, .o none (Kf K (putD (gbK (gbL b ps (o.take i) d)) (Sum.inl (c : Int)) (.int ((pay ps c).2 - ((stp b ps d0 c).1.map (·.2)).sum)))), _, _, _] [.d b.d, .d (dueT bs d), .d (paysD ps), .d (ordD o), .o none (Kf K (gbK (gbL b ps (o.take (i + 1)) d))), .u, .u, .u]
    rw [put_gb hnew, ht, gbL_snoc, hd0]
    exact ⟨rfl, rfl, rfl, rfl, rfl, trivial⟩
  · show Fin _ _ [.d b.d, .d (dueT bs d), .d (paysD ps), .d (ordD o), .o none (Kf K (gbK (gbL b ps (o.take (zipD (o.map fun (i : Nat) => PyData.int i) ((walkL b ps o d).map (itemD bs))).length) d))), .u, .u, .u] _ _
    rw [zipD_len, List.length_map, List.length_map, walkL_len, Nat.min_self, List.take_length]
    have hpl := S.pl
    refine fin_ret (Ev.dc (ev_tupL B.tuple (ed1 (.frz (ev_lcq _ [("place", 5)] (gbG (gbL b ps o d)) sc19.nd (ei_range1 (n := (ps.length : Nat)) B.range (ed1 (Ev.dc (ev_lenT (ds := ps.map numP) B.len (ed1 (ev 2))) (by rw [List.length_map]))) (by omega) (by omega))
      (blkOk_by (N := ["book", "dues", "payments", "order", "found", "place", "on", "opens"]) (sc := defScope (topS 19)) (by decide +kernel)) (by rw [irange_len]; omega) (fun x hx => ?_) ⟨rfl, trivial⟩)))) ?_)
    · obtain ⟨i, hi⟩ := List.mem_iff_getElem?.mp hx
      obtain ⟨hlt, rfl⟩ := irange_get hi
      have e0 : (0 : Int) + (i : Nat) = (i : Nat) := by omega
      rw [e0]
      have hmem : i ∈ (gbL b ps o d).map (·.1) := by rw [gbL_keys]; exact O.all i (by omega)
      exact lct_one 5 rfl (fun _ _ _ _ _ => tg_name 5 sc19.nd) fun _ _ _ _ _ => ev_dget 4 (k := Sum.inl (i : Int)) (look_gb hmem) (hu_of hr) (ev 5)
    · unfold irange gvs
      rw [filterMap_map (fun (i : Nat) => PyData.int (0 + i)) (gbG (gbL b ps o d)) (fun i => .int (gbv (gbL b ps o d) i)) (fun i => by show some _ = some _; rw [show ((0 : Int) + (i : Nat)).toNat = i by omega]), List.map_map]
      rfl
/-! ### sum_back -/
theorem sc20 : FnScope ["book", "dues", "payments", "order"] ["book", "dues", "payments", "order"] (defScope (topS 20)) := ⟨rfl, rfl, rfl, by decide +kernel, rfl, by decide +kernel, by decide +kernel⟩
def d_sum_back (ds : List PyData) (r : Sd) : Prop := ∃ (b : Bk) (bs : List Str) (ps : List (Str × Int)) (d : Str → Int) (o : List Nat), ds = [b.d, dueT bs d, paysD ps, ordD o] ∧ Sit b bs ps ∧ Ord ps o ∧ r = .d (.int (gvs b ps d o).sum)
theorem ok_sum_back {f : Addr} {fd : FuncData} (F : Fun K "sum_back" "sum_back" (topS 20) f fd) (B : Bl mg) (G : Dn P w K mg base "given_back" ["book", "dues", "payments", "order"] 7 (RelD d_given_back)) :
    FnOk P w K mg base CX0 8 f fd ["book", "dues", "payments", "order"] (spD K (RelD d_sum_back)) := by
  refine fn_okD F sc20 (fun ds r h => by obtain ⟨_, _, _, _, _, rfl, _⟩ := h; rfl) fun cdv A outer s H E hr ds r h => ?_
  obtain ⟨b, bs, ps, d, o, rfl, S, O, rfl⟩ := h
  show Fin _ _ [.d b.d, .d (dueT bs d), .d (paysD ps), .d (ordD o)] [.u, .u, .u, .u] _
  exact fin_ret (ev_sumT B.sum (ed1 (ev_f G hr (Nat.le_refl _) (el_cons (ev 0) (el_cons (ev 1) (el_cons (ev 2) (el1 (ev 3))))) ⟨[b.d, dueT bs d, paysD ps, ordD o], rfl, rfl, b, bs, ps, d, o, rfl, S, O, rfl⟩)))
end
end Ol
set_option Elab.async false
set_option linter.all false
set_option maxRecDepth 100000
set_option maxHeartbeats 2000000
/-! OlNd: dicts whose keys are nested tuples, their values True. -/
namespace Ol
open PySem L2
open Evl (Ex Ex.refl Ex.trans Ex.new ex_l ex_t fresh_back sz_of sz_lt)
mutual
def nkD : PyData → NestedKey
  | .bool b => .num (if b = true then 1 else 0)
  | .int i => .num i
  | .str x => .text x
  | .tuple xs => .tup (nkA xs)
  | _ => .none
def nkA : List PyData → List NestedKey
  | [] => []
  | x :: xs => nkD x :: nkA xs
end
mutual
def keyOk : PyData → Bool
  | .none => true
  | .bool _ => true
  | .int _ => true
  | .str _ => true
  | .tuple xs => keyOkA xs
  | _ => false
def keyOkA : List PyData → Bool
  | [] => true
  | x :: xs => keyOk x && keyOkA xs
end
section
variable {X : Cx} {pins : List (Addr × Obj)} {σ : L2.St} {H : Hp} {s : Shared}
mutual
theorem nested_of (I : L2.Inv X pins σ H s) : ∀ {v : V} {d : PyData} {u : Value}, Dp X.K H v d → keyOk d = true → RelV v u → NestedIs s.heap (nkD d) u
  | _, _, u, .non, _, r => by cases r; exact .none
  | _, _, u, .bl b, _, r => by cases r; exact .bool rfl
  | _, _, u, .int i, _, r => by obtain ⟨t, rfl⟩ := r; exact .int i t
  | _, _, u, .str x, _, r => by obtain ⟨t, rfl⟩ := r; exact .text x t
  | _, _, u, .lst _ _, h, _ => by cases h
  | _, _, u, .tup hs hd, h, r => by
    cases r
    obtain ⟨its, rv, ⟨o, ho, hc, n, hdt⟩, _⟩ := I.tuple hs
    exact .tup ho hc hdt (nested_all I hd h rv)
theorem nested_all (I : L2.Inv X pins σ H s) : ∀ {vs : List V} {ds : List PyData} {us : List Value}, DpAll X.K H vs ds → keyOkA ds = true → Vals vs us → NestedAll s.heap (nkA ds) us
  | _, _, _, .nil, _, .nil => .nil
  | _, _, _, .cons h t, k, .cons r rs => by
    have k' := (Bool.and_eq_true _ _).mp k
    exact .cons (nested_of I h k'.1 r) (nested_all I t k'.2 rs)
end
end
/-- the dict at d: keys, the keys' tuples -/
def NdO (P : Program) (w : World) (d : Addr) (xs : List (NestedKey × Addr)) : HO := .ext fun h => (d == sysModules) = false ∧ ∃ o es ep, h.get? d = some o ∧ o.ExactDict ∧ o.data = .dict es ep ∧ es.toList = xs.map fun x => entryOfKey (nestedKind P w) (x.1, x.2, Value.bool true)
abbrev tr3 (xs : List (NestedKey × Addr)) : List (NestedKey × Addr × Value) := xs.map fun x => (x.1, x.2, Value.bool true)
theorem tr3_entries {P : Program} {w : World} (xs : List (NestedKey × Addr)) : (tr3 xs).map (entryOfKey (nestedKind P w)) = xs.map fun x => entryOfKey (nestedKind P w) (x.1, x.2, Value.bool true) := by rw [List.map_map]; rfl
section
variable {P : Program} {w : World} {H : Hp} {h : Heap} {a d : Addr} {xs : List (NestedKey × Addr)}
theorem ndO_new (hd : (a == sysModules) = false) {o : Obj} {es : Array DictEntry} {ep : Nat} (h1 : h.get? a = some o) (h2 : o.ExactDict) (h3 : o.data = .dict es ep) (h4 : es.toList = xs.map fun x => entryOfKey (nestedKind P w) (x.1, x.2, Value.bool true)) : ObjOk P w H h a (NdO P w a xs) :=
  ⟨⟨hd, o, es, ep, h1, h2, h3, h4⟩, ⟨o, h1⟩, fun g1 g2 ⟨hd', o', es', ep', k1, k2, k3, k4⟩ hk => ⟨hd', o', es', ep', hk o' k1, k2, k3, k4⟩⟩
theorem ndO_at (x : ObjOk P w H h a (NdO P w d xs)) : a = d := by
  obtain ⟨⟨hd, o, es, ep, h1, _⟩, ⟨oa, ha⟩, st⟩ := x
  by_cases e : a = d
  · exact e
  · let G : Hp := fun b => if b = d then some (.own d) else none
    have hn : G a = none := if_neg e
    have := st h (hidT h G) ⟨hd, o, es, ep, h1, by assumption⟩ fun o' ho' => hidT_get ho' hn
    obtain ⟨_, o', _, _, k1, _⟩ := this
    have k2 := (of_hidT k1).2
    have k3 : G d = some (.own d) := if_pos rfl
    rw [k3] at k2
    cases k2
theorem ndO_get (x : ObjOk P w H h a (NdO P w d xs)) : a = d ∧ (a == sysModules) = false ∧ ∃ o es ep, h.get? a = some o ∧ o.ExactDict ∧ o.data = .dict es ep ∧ es.toList = (tr3 xs).map (entryOfKey (nestedKind P w)) := by
  have e := ndO_at x
  subst e
  obtain ⟨⟨hd, o, es, ep, h1, h2, h3, h4⟩, _⟩ := x
  exact ⟨rfl, hd, o, es, ep, h1, h2, h3, by rw [h4, tr3_entries]⟩
end
/-- the key k stands at q -/
def KeyAt (K : PySem.W.Frag) (H : Hp) (k : NestedKey) (q : Addr) : Prop := ∃ d, Dp K H (.ref q) d ∧ keyOk d = true ∧ k = nkD d ∧ k.depth ≤ 8
theorem KeyAt.ex {K : PySem.W.Frag} {H H' : Hp} {k : NestedKey} {q : Addr} (e : Ex H H') (h : KeyAt K H k q) : KeyAt K H' k q := by
  obtain ⟨d, h1, h2⟩ := h
  exact ⟨d, dp_ex e h1, h2⟩
section
variable {X : Cx} {pins : List (Addr × Obj)} {σ : L2.St} {H : Hp} {s : Shared}
theorem KeyAt.is {k : NestedKey} {q : Addr} (I : L2.Inv X pins σ H s) (h : KeyAt X.K H k q) : (nestedKind X.prog X.w).is s.heap k q := by
  obtain ⟨d, h1, h2, rfl, h3⟩ := h
  exact ⟨nested_of I h1 h2 rfl, h3⟩
theorem nd_of {d p : Addr} {xs : List (NestedKey × Addr)} (I : L2.Inv X pins σ H s) (h : H p = some (NdO X.prog X.w d xs)) (hk : ∀ x ∈ xs, KeyAt X.K H x.1 x.2) (nd : (xs.map (·.1)).Nodup) : p = d ∧ (p == sysModules) = false ∧ s.heap.DictOfH (nestedKind X.prog X.w) p (tr3 xs) := by
  obtain ⟨e, hs, o, es, ep, h1, h2, h3, h4⟩ := ndO_get (I.hok p _ h)
  refine ⟨e, hs, o, es, ep, h1, h2, h3, h4, fun x hx => ?_, ?_⟩
  · obtain ⟨y, hy, rfl⟩ := List.mem_map.mp hx
    exact (hk y hy).is I
  · rw [List.map_map]; exact nd
/-- a nested dict's object is replaced -/
theorem nd_write {p : Addr} {xs ys : List (NestedKey × Addr)} {h' : Heap} {t' : Nat} (I : L2.Inv X pins σ H s) (h : H p = some (NdO X.prog X.w p xs)) (hs : (p == sysModules) = false) (sb : Heap.SameBut p s.heap h') (hd : h'.DictOfH (nestedKind X.prog X.w) p (tr3 ys)) : L2.Inv X pins σ (upd H p (NdO X.prog X.w p ys)) { s with heap := h', toks := t' } := by
  obtain ⟨o, es, ep, h1, h2, h3, h4, _⟩ := hd
  exact d_write I (by rw [h]; exact trivial) sb ⟨o, h1⟩ (ndO_new hs h1 h2 h3 (by rw [h4, tr3_entries]))
end
def putN (xs : List (NestedKey × Addr)) (k : NestedKey) (q : Addr) : List (NestedKey × Addr) := if (xs.any fun x => decide (x.1 = k)) = true then xs else xs ++ [(k, q)]
theorem stored_putN (xs : List (NestedKey × Addr)) (k : NestedKey) (q : Addr) : storedH (tr3 xs) k q (.bool true) = tr3 (putN xs k q) := by
  have e : (atKey (tr3 xs) k).isSome = xs.any fun x => decide (x.1 = k) := by
    unfold atKey tr3
    induction xs with
    | nil => rfl
    | cons x xs ih =>
      rw [List.map_cons, List.find?_cons, List.any_cons]
      by_cases h : x.1 = k
      · simp [h]
      · simp only [h, decide_false, Bool.false_or]; exact ih
  unfold storedH putN
  rw [e]
  split
  · unfold tr3
    rw [List.map_map]
    refine List.map_congr_left fun x _ => ?_
    show putAt k (.bool true) (x.1, x.2, .bool true) = _
    unfold putAt
    split <;> rfl
  · unfold tr3; rw [List.map_append]; rfl
section
variable {X : Cx}
/-- {} -/
def tNNew (P : Program) (w : World) : TE := fun _ H Q => ∀ p, H p = none → Q (.ref p) (upd H p (NdO P w p []))
theorem nd_empty {P : Program} {w : World} {H : Hp} (h : Heap) (hb : sysModules < h.objs.size) : ObjOk P w H (h.push { cls := .type "dict", data := .dict #[] }) h.objs.size (NdO P w h.objs.size []) :=
  ndO_new (beq_eq_false_iff_ne.mpr (Nat.ne_of_gt hb)) (Heap.get?_push_size _ rfl) ⟨rfl, rfl, rfl⟩ rfl rfl
theorem pe_nnew {pos : Pos} : PE X (.Dict [] [] pos) (tNNew X.prog X.w) := ⟨fun pins s σ H Q I h =>
  wpAny_Dict_empty ⟨.ref s.heap.objs.size, _, I.laid (a := s.heap.objs.size) (t' := s.toks) (fun _ _ q => Heap.get?_push_of_some _ q) (Nat.le_refl _) (nd_empty s.heap I.big), rfl, h _ (I.hok.fresh (Nat.le_refl _))⟩⟩
/-- {k: True} -/
def tNDisp (X : Cx) (tk : TE) : TE := fun σ H Q => ∀ p, H p = none → tk σ (upd H p (NdO X.prog X.w p [])) fun v H2 => H2 p = some (NdO X.prog X.w p []) ∧ ∃ q k, v = .ref q ∧ KeyAt X.K H2 k q ∧ Q (.ref p) (upd H2 p (NdO X.prog X.w p [(k, q)]))
theorem pe_ndisp {ke : Expr} {tk : TE} {j : Nat} {p2 pos : Pos} (hu : X.A.units + 9 < cLine) (hk : PE X ke tk)
    (hshape : (evalEachOpt [some ke] X.env).zip ((evalEach [.Constant (.bool true) j p2] X.env).map fun v => do let x ← v; standAt pos; pure x) = [(some (eval ke X.env), do let x ← eval (.Constant (.bool true) j p2) X.env; standAt pos; pure x)] := by rfl) :
    PE X (.Dict [some ke] [.Constant (.bool true) j p2] pos) (tNDisp X tk) := by
  refine ⟨fun pins s σ H Q I h => ?_⟩
  have hn := I.hok.fresh (Nat.le_refl s.heap.objs.size)
  have I1 := I.laid (a := s.heap.objs.size) (o := NdO X.prog X.w s.heap.objs.size []) (h' := s.heap.push { cls := .type "dict", data := .dict #[] }) (t' := s.toks) (fun _ _ q => Heap.get?_push_of_some _ q) (Nat.le_refl _) (nd_empty s.heap I.big)
  rw [arm_eval_Dict, hshape, show ([(some (eval ke X.env), (do let x ← eval (.Constant (.bool true) j p2) X.env; standAt pos; pure x : Sem Value))] : List (Option (Sem Value) × Sem Value)) = [(eval ke X.env, (do let x ← eval (.Constant (.bool true) j p2) X.env; standAt pos; pure x : Sem Value))].map (fun p => (some p.1, p.2)) from rfl,
    dictDisplay_pairs _ (by simp) (by simp)]
  refine wpAny_bind (wpAny_standAt (wpAny_bind (wpAny_subDictH (knd := nestedKind X.prog X.w) (by show X.A.units + 8 < cLine; omega) (by simp) ?_)))
  show wpAny _ _ (eval ke X.env >>= _) _ _ _
  refine wpAny_bind (thn (hk.run pins _ σ _ _ I1 (h _ hn)) fun u s2 ⟨v, H2, I2, rv, hp2, q, k, ev, hka, hQ⟩ => ?_)
  subst ev
  cases rv
  refine wpAny_bind (wpAny_holding ?_)
  refine wpAny_bind (thn ((pe_bl (X := X)).run pins s2 σ H2 (fun v H3 => v = .bl true ∧ H3 = H2) I2 ⟨rfl, rfl⟩) fun u2 s3 ⟨v2, H3, I3, rv2, e2, e3⟩ => ?_)
  subst e2 e3
  cases rv2
  refine wpAny_bind (wpAny_standAt (wpAny_pure ?_))
  refine wpAny_bind (wpAny_holding (wpAny_pure (wpAny_pure ?_)))
  obtain ⟨_, hs, dd⟩ := nd_of I3 hp2 (fun x hx => by cases hx) List.nodup_nil
  refine ⟨[(k, q, .bool true)], ⟨rfl, rfl, hka.is I3, trivial⟩, dd, fun h' tk hd sb => wpAny_pure ?_⟩
  exact ⟨.ref s.heap.objs.size, _, nd_write (ys := [(k, q)]) I3 hp2 hs sb hd, rfl, hQ⟩
/-- d[k] = True -/
def rSetN (X : Cx) : V → V → V → Hp → (Hp → Prop) → Prop := fun o i v H Q => ∃ p xs q k, o = .ref p ∧ i = .ref q ∧ v = .bl true ∧ (∃ d, H p = some (NdO X.prog X.w d xs)) ∧ KeyAt X.K H k q ∧ (∀ x ∈ xs, KeyAt X.K H x.1 x.2) ∧ (xs.map (·.1)).Nodup ∧ xs.length ≤ 100000 ∧ Q (upd H p (NdO X.prog X.w p (putN xs k q)))
theorem set_nd (hu : X.A.units + 9 < cLine) : PSet X (rSetN X) := by
  intro pins s σ H o i v ov iv u Q I ro ri rv h
  obtain ⟨p, xs, q, k, rfl, rfl, rfl, ⟨d, hp⟩, hk, hks, nd, hl, hQ⟩ := h
  cases ro
  cases ri
  cases rv
  obtain ⟨rfl, hs, dd⟩ := nd_of I hp hks nd
  refine wpAny_setItem_heap (knd := nestedKind X.prog X.w) (by show X.A.units + 1 + 8 < cLine; omega) (hk.is I) dd (fun h' hd sb => ?_) (by rw [List.length_map]; exact sz5 hl)
  rw [stored_putN] at hd
  exact ⟨_, nd_write I hp hs sb hd, hQ⟩
/-! the keys, one by one, of a dict that is known -/
def ItN (P : Program) (w : World) (d : Addr) (o : Obj) (xs : List (NestedKey × Addr)) : It :=
  ⟨fun i H => H d = some (.frz o (NdO P w d xs)) ∧ i < xs.length, fun i H x H' => H' = H ∧ ∃ k q, xs[i]? = some (k, q) ∧ x = .ref q, fun i H => H d = some (.frz o (NdO P w d xs)) ∧ xs.length ≤ i⟩
end
end Ol
set_option Elab.async false
set_option linter.all false
set_option maxRecDepth 100000
set_option maxHeartbeats 2000000
/-! OlNd2: rows: nested keys over the states of what is due. -/
namespace Ol
open PySem L2
open Evl (Ex Ex.refl Ex.trans Ex.new ex_l ex_t fresh_back sz_of sz_lt)
theorem turn_nd {P : Program} {w : World} {K : PySem.W.Frag} {tg : Expr} {d : Addr} {o : Obj} {es : Array DictEntry} {ep : Nat} {xs : List (NestedKey × Addr)} (it : Addr) (hod : o.data = .dict es ep) : Turn P w K tg (ItN P w d o xs) [it] it (fun i h => h.IsKeyIter it d i xs.length ep) where
  mem := List.mem_cons_self ..
  obj := fun i h st b hb => by
    have e := List.mem_singleton.mp hb
    subst e
    obtain ⟨u, e, _, r⟩ := st
    exact ⟨u, e, fun v z => nomatch r.symm.trans z⟩
  keep := fun i h h' st k => st.at fun u e => k it (List.mem_cons_self ..) u e
  item := by
    intro X hP hw hK hc i pins s σ H E I hf st hg
    subst hP hw hK
    obtain ⟨hd, hi⟩ := hg
    obtain ⟨f0, f1, f2, f3, f4, f5⟩ := hf it (List.mem_cons_self ..)
    obtain ⟨hgd, x⟩ := (show ObjOk X.prog X.w H s.heap d (.frz o (NdO X.prog X.w d xs)) from I.hok d _ hd)
    obtain ⟨_, _, o', es', ep', h1, h2, h3, h4⟩ := ndO_get x
    have eo : o' = o := Option.some.inj (h1.symm.trans hgd)
    subst eo
    obtain ⟨rfl, rfl⟩ := dict_ep hod h3
    have hsz : es'.size = xs.length := by rw [← Array.length_toList, h4, List.length_map, List.length_map]
    have hx := List.getElem?_eq_getElem hi
    have hen : es'[i]? = some (entryOfKey (nestedKind X.prog X.w) (xs[i].1, xs[i].2, Value.bool true)) := by rw [← Array.getElem?_toList, h4, List.getElem?_map, List.getElem?_map, hx]; rfl
    refine next_key_item st hgd hod hsz hen fun h' st' sb => ?_
    have I1 : L2.Inv X pins σ H { s with heap := h' } := I.turned (t' := s.toks) (fun b u hb e => (sb.2 b hb).trans e) f0 f1 f3 f4 f5
    obtain ⟨u, e, c, dd⟩ := id st'
    exact ⟨_, rfl, go_of (s := { s with heap := h' }) e c dd (by decide) ⟨.ref xs[i].2, H, I1, rfl, ⟨rfl, xs[i].1, xs[i].2, hx, rfl⟩, st', fun b hb => (hf b hb).1⟩⟩
  done := by
    intro X hP hw hK hc i pins s σ H E I hf st hg
    subst hP hw hK
    obtain ⟨hd, hi⟩ := hg
    obtain ⟨f0, f1, f2, f3, f4, f5⟩ := hf it (List.mem_cons_self ..)
    obtain ⟨hgd, x⟩ := (show ObjOk X.prog X.w H s.heap d (.frz o (NdO X.prog X.w d xs)) from I.hok d _ hd)
    obtain ⟨_, _, o', es', ep', h1, h2, h3, h4⟩ := ndO_get x
    have eo : o' = o := Option.some.inj (h1.symm.trans hgd)
    subst eo
    obtain ⟨rfl, rfl⟩ := dict_ep hod h3
    have hsz : es'.size = xs.length := by rw [← Array.length_toList, h4, List.length_map, List.length_map]
    exact next_key_end (I.ok.hd hc) st hgd hod hsz hi fun h' eb => ⟨rfl, I.turned (t' := s.toks) (fun b u hb e => eb b u hb e) f0 f1 f3 f4 f5⟩
  self := fun A i s Q E st h => by
    refine wpAny_pyIter_slot st.typeIs F.slot_dict_keyiterator_iter (wpAny_call_entry F.slot_dict_keyiterator_iter st.typeIs F.entry_dict_keyiterator_iter ?_ (F.args_dict_keyiterator_iter_1 _))
    show wpAny _ _ (ret (.ref it)) _ _ s
    exact wpAny_pure ⟨_, rfl, "dict_keyiterator", _, st.typeIs, F.slot_dict_keyiterator_next.lookup, h⟩
def iNd (P : Program) (w : World) (td : TE) : TI := fun σ H R => td σ H fun x H1 => ∃ p d o xs, x = .ref p ∧ H1 p = some (.frz o (NdO P w d xs)) ∧ (p = d → R (ItN P w p o xs) H1)
theorem pi_nd {X : Cx} {tg e : Expr} {td : TE} (he : PE X e td) : PI X tg e (iNd X.prog X.w td) := by
  refine ⟨fun pins s σ H R I h => ?_⟩
  refine thn (he.run pins s σ H _ I h) fun u s1 ⟨x, H1, I1, rx, d, d', o, xs, ex, hd, q⟩ => ?_
  subst ex
  obtain rfl : u = Value.ref d := rx
  obtain ⟨hgd, x⟩ := (show ObjOk X.prog X.w H1 s1.heap d (.frz o (NdO X.prog X.w d' xs)) from I1.hok d _ hd)
  obtain ⟨ed, hs, o', es, ep, h1, h2, h3, h4⟩ := ndO_get x
  subst ed
  have eo : o' = o := Option.some.inj (h1.symm.trans hgd)
  subst eo
  have hsz : es.size = xs.length := by rw [← Array.length_toList, h4, List.length_map, List.length_map]
  refine iter_keys hs hgd h2 h3 (pi_one (tk := s1.toks) I1 _ (turn_nd _ h3) ⟨_, Heap.get?_push_size _ rfl, rfl, ?_⟩ (q rfl))
  rw [hsz] <;> rfl

/-! ### items of any kind -/
def JOkP (J : It) (ms : List Pd) (H : Hp) : Prop := ∀ (i : Nat) (Hb Ha : Hp), Ex H Hb → Ex Hb Ha →
  (∀ P, ms[i]? = some P → J.go i Ha ∧ ∀ x Ha', J.yld i Ha x Ha' → ∃ Hb', Up Hb Ha Hb' Ha' ∧ P x Hb') ∧ (i = ms.length → J.stop i Ha)
def EiP (X : Cx) (tg iter : Expr) (env env' : List Sd) (ms : List Pd) : Prop := ∀ (β : Bs) (σ : L2.St) (H H1 : Hp) (R : It → Hp → Prop), St X.K β σ H H1 env → (∀ J H' H2, St X.K β σ H' H2 env' → Ex H H' → JOkP J ms H' → R J H2) → tiW X tg iter σ H1 R
def TgP (X : Cx) (tg : Expr) (P : Pd) (env env' : List Sd) : Prop := ∀ (β : Bs) (σ : L2.St) (H H1 : Hp) (v : V) (Q : L2.St → Hp → Prop), St X.K β σ H H1 env → P v H → (∀ σ', St X.K β σ' H H1 env' → Q σ' H1) → tgW X tg v σ H1 Q
section
variable {X : Cx} {env env1 env2 env' : List Sd} {iter tg e : Expr} {body : List Stmt} {pos : Pos} {ms : List Pd}
theorem r1_forP (envs : Nat → List Sd) (hp : PassesOwn (model X.prog X.w) X.A X.env X.xe) (hi : EiP X tg iter env env1 ms) (h0 : Wk env1 (envs 0))
    (ht : ∀ i P, ms[i]? = some P → ∃ e1, TgP X tg P (envs i) e1 ∧ Rn X body e1 (.nx (envs (i + 1)))) (hc : X.calm = true := by rfl) (hs : ∀ x, foldedSetIterable iter X.env x = pure x := by intro _; rfl) :
    R1 X (.For tg iter body [] pos) env (.nx (envs ms.length)) := fun β σ H H1 D hL S C =>
  tsW.of (ps_for hp hc piW pgW pssW hs) (hi β σ H H1 _ S fun J H' H2 S' ex jo => by
    refine ⟨fun i m σ1 Ha => ∃ Hb, St X.K β σ1 Hb Ha (envs i) ∧ Ex H' Hb ∧ i + m = ms.length, ⟨ms.length, H', S'.wk h0, Ex.refl H', by omega⟩, fun i m σ1 Ha ⟨Hb, S1, e1, hm⟩ => ?_⟩
    rcases Nat.lt_or_ge i ms.length with hi' | hi'
    · have hd := List.getElem?_eq_getElem hi'
      obtain ⟨g, y⟩ := (jo i Hb Ha e1 S1.ex).1 _ hd
      obtain ⟨ev1, t1, b1⟩ := ht i _ hd
      refine .inr ⟨g, fun σ' Ha' => ∃ Hb', St X.K β σ' Hb' Ha' (envs (i + 1)) ∧ Ex H' Hb', fun σ' Ha' ⟨Hb', S2, e2⟩ => ⟨m - 1, by omega, Hb', S2, e2, by omega⟩, fun x Ha' hy => ?_⟩
      obtain ⟨Hb', u, p⟩ := y x Ha' hy
      exact t1 β σ1 Hb' Ha' x _ (S1.up u) p fun σ2 S2 => b1 (β.at H') σ2 Hb' Ha' _ hL (S'.lift S2 (e1.trans u.ex)) fun σ3 Hc Hd S3 => ⟨Hc, S'.drop S3, S3.b⟩
    · have : i = ms.length := by omega
      subst this
      exact .inl ⟨(jo _ Hb Ha e1 S1.ex).2 rfl, C _ Hb Ha S1⟩)
end
/-! ### keys: places, what is due -/
def rkD (bs : List Str) (S : List Int) (e : Str → Int) : PyData := .tuple [.tuple (S.map .int), dueT bs e]
def KeyV (K : PySem.W.Frag) (bs : List Str) (S : List Int) (e : Str → Int) : Pd := fun v H => ∃ q vS a ob ys, v = .ref q ∧ H q = some (.tup [vS, .ref a]) ∧ Dp K H vS (.tuple (S.map .int)) ∧ H a = some (.frz ob (.tup ys)) ∧ PlTup ob ∧ DpAll K H ys (dueD bs e)
theorem KeyV.ex {K : PySem.W.Frag} {bs : List Str} {S : List Int} {e : Str → Int} {v : V} {H H' : Hp} (x : Ex H H') (h : KeyV K bs S e v H) : KeyV K bs S e v H' := by
  obtain ⟨q, vS, a, ob, ys, h1, h2, h3, h4, h5, h6⟩ := h
  exact ⟨q, vS, a, ob, ys, h1, x _ _ h2, dp_ex x h3, x _ _ h4, h5, dpa_ex x h6⟩
theorem KeyV.dp {K : PySem.W.Frag} {bs : List Str} {S : List Int} {e : Str → Int} {v : V} {H : Hp} (h : KeyV K bs S e v H) : Dp K H v (rkD bs S e) := by
  obtain ⟨q, vS, a, ob, ys, rfl, h2, h3, h4, h5, h6⟩ := h
  exact .tup (SqT.of h2) (.cons h3 (.cons (.tup (.inl (.inr ⟨ob, h4⟩)) h6) .nil))
theorem nkA_ints : ∀ S : List Int, nkA (S.map .int) = S.map .num
  | [] => rfl
  | n :: S => congrArg (NestedKey.num n :: ·) (nkA_ints S)
theorem keyOk_ints : ∀ S : List Int, keyOkA (S.map .int) = true
  | [] => rfl
  | n :: S => keyOk_ints S
theorem keyOk_due (e : Str → Int) : ∀ bs : List Str, keyOkA (dueD bs e) = true
  | [] => rfl
  | b :: bs => keyOk_due e bs
theorem depth_ints : ∀ S : List Int, NestedKey.depthAll (S.map .num) = 0
  | [] => rfl
  | n :: S => by show max 0 (NestedKey.depthAll (S.map .num)) = 0; rw [depth_ints S]; rfl
theorem depth_due (e : Str → Int) : ∀ bs : List Str, NestedKey.depthAll (nkA (dueD bs e)) ≤ 1
  | [] => Nat.zero_le _
  | b :: bs => by
    show max 1 (NestedKey.depthAll (nkA (dueD bs e))) ≤ 1
    have := depth_due e bs
    omega
theorem rkD_at {K : PySem.W.Frag} {bs : List Str} {S : List Int} {e : Str → Int} {q : Addr} {H : Hp} (h : KeyV K bs S e (.ref q) H) : KeyAt K H (nkD (rkD bs S e)) q := by
  refine ⟨_, h.dp, ?_, rfl, ?_⟩
  · show (keyOkA (S.map .int) && (keyOkA (dueD bs e) && true)) = true
    rw [keyOk_ints, keyOk_due]; rfl
  · show max (NestedKey.depthAll (nkA (S.map .int)) + 1) (max (NestedKey.depthAll (nkA (dueD bs e)) + 1) 0) + 1 ≤ 8
    rw [nkA_ints, depth_ints]
    have := depth_due e bs
    omega
theorem nk_inj {bs : List Str} {S S' : List Int} {e e' : Str → Int} (h : nkD (rkD bs S e) = nkD (rkD bs S' e')) : S = S' := by
  have h1 : NestedKey.tup [NestedKey.tup (nkA (S.map .int)), nkD (dueT bs e)] = NestedKey.tup [NestedKey.tup (nkA (S'.map .int)), nkD (dueT bs e')] := h
  have h2 := NestedKey.tup.inj h1
  have h3 := NestedKey.tup.inj (List.cons.inj h2).1
  rw [nkA_ints, nkA_ints] at h3
  have gen : ∀ {S S' : List Int}, S.map NestedKey.num = S'.map NestedKey.num → S = S' := by
    intro S
    induction S with
    | nil => intro S' h; cases S' with | nil => rfl | cons => simp at h
    | cons x S ih =>
      intro S' h
      cases S' with
      | nil => simp at h
      | cons y S' =>
        rw [List.map_cons, List.map_cons] at h
        obtain ⟨e1, e2⟩ := List.cons.inj h
        rw [NestedKey.num.inj e1, ih e2]
  exact gen h3
/-- rows as a dict's content: each set of places with its state -/
def RowP (K : PySem.W.Frag) (bs : List Str) (F : List Int → Str → Int) (H : Hp) : NestedKey × Addr → List Int → Prop := fun x S => x.1 = nkD (rkD bs S (F S)) ∧ KeyV K bs S (F S) (.ref x.2) H
theorem rowp_ex {K : PySem.W.Frag} {bs : List Str} {F : List Int → Str → Int} {H H' : Hp} (e : Ex H H') {xs : List (NestedKey × Addr)} {Ss : List (List Int)} (h : Paired (RowP K bs F H) xs Ss) : Paired (RowP K bs F H') xs Ss := Paired.mapP h fun _ _ z => ⟨z.1, z.2.ex e⟩
def Nf (P : Program) (w : World) (K : PySem.W.Frag) (bs : List Str) (F : List Int → Str → Int) (Ss : List (List Int)) : HO → Hp → Prop := fun o H => ∃ d xs, o = NdO P w d xs ∧ Paired (RowP K bs F H) xs Ss
def Cf (P : Program) (w : World) (K : PySem.W.Frag) (bs : List Str) (F : List Int → Str → Int) (Ss : List (List Int)) : HO → Hp → Prop := fun o H => ∃ d od xs, o = .frz od (NdO P w d xs) ∧ Paired (RowP K bs F H) xs Ss
theorem rows_at {K : PySem.W.Frag} {bs : List Str} {F : List Int → Str → Int} {H : Hp} : ∀ {xs : List (NestedKey × Addr)} {Ss : List (List Int)}, Paired (RowP K bs F H) xs Ss → ∀ x ∈ xs, KeyAt K H x.1 x.2
  | _, _, .nil, x, h => by cases h
  | _, _, .cons h t, x, hx => by
    rcases List.mem_cons.mp hx with z | z
    · subst z; rw [h.1]; exact rkD_at h.2
    · exact rows_at t x z
theorem rows_keys {K : PySem.W.Frag} {bs : List Str} {F : List Int → Str → Int} {H : Hp} : ∀ {xs : List (NestedKey × Addr)} {Ss : List (List Int)}, Paired (RowP K bs F H) xs Ss → xs.map (·.1) = Ss.map fun S => nkD (rkD bs S (F S))
  | _, _, .nil => rfl
  | _, _, .cons h t => by rw [List.map_cons, List.map_cons, h.1, rows_keys t]
theorem rows_nodup {bs : List Str} {F : List Int → Str → Int} {Ss : List (List Int)} (h : Ss.Nodup) : (Ss.map fun S => nkD (rkD bs S (F S))).Nodup := List.Pairwise.map _ (fun a b hab z => hab (nk_inj z)) h
def addS (Ss : List (List Int)) (S : List Int) : List (List Int) := if S ∈ Ss then Ss else Ss ++ [S]
theorem rows_put {K : PySem.W.Frag} {bs : List Str} {F : List Int → Str → Int} {H : Hp} {xs : List (NestedKey × Addr)} {Ss : List (List Int)} {S : List Int} {q : Addr} (h : Paired (RowP K bs F H) xs Ss) (hq : KeyV K bs S (F S) (.ref q) H) : Paired (RowP K bs F H) (putN xs (nkD (rkD bs S (F S))) q) (addS Ss S) := by
  have e : (xs.any fun x => decide (x.1 = nkD (rkD bs S (F S)))) = decide (S ∈ Ss) := by
    clear hq
    induction h with
    | nil => rfl
    | @cons x T l m hx t ih =>
      rw [List.any_cons, ih, hx.1]
      by_cases z : T = S
      · subst z; simp
      · have z' : ¬ nkD (rkD bs T (F T)) = nkD (rkD bs S (F S)) := fun y => z (nk_inj y)
        have z2 : ¬ S = T := fun y => z y.symm
        simp [z', z2]
  unfold putN addS
  rw [e]
  by_cases m : S ∈ Ss
  · rw [if_pos (decide_eq_true m), if_pos m]; exact h
  · rw [if_neg (by rw [decide_eq_false m]; exact Bool.false_ne_true), if_neg m]
    exact h.snoc ⟨rfl, hq⟩
section
variable {X : Cx} {env env1 env2 env' : List Sd} {iter tg e a b : Expr} {body rest : List Stmt} {pos p pos' : Pos} {bs : List Str} {F : List Int → Str → Int} {Ss : List (List Int)} {S : List Int} {x y : Str} {out : Out}
theorem ev_nnew : Ev X (.Dict [] [] pos) env env (.o none (Nf X.prog X.w X.K bs F [])) := fun β σ H H1 Q S q =>
  teW.of pe_nnew fun p hp => (KR.of S (Ex.refl H) q).newO S.ex (fun _ _ => ⟨p, [], rfl, .nil⟩) p hp
theorem key_new {H H1 : Hp} {vS v : V} {d : Str → Int} {ex : Ex H H1} (S0 : Dp X.K H vS (.tuple (S.map .int))) (h : SlotOk X.K H H1 (some v) (.c (TfP X.K (dueD bs d)))) : ∃ a ob ys, v = .ref a ∧ H a = some (.frz ob (.tup ys)) ∧ PlTup ob ∧ DpAll X.K H ys (dueD bs d) := by
  obtain ⟨a, o, e, ha, m⟩ := h
  cases e
  obtain ⟨ob, ys, rfl, hp, hd⟩ := m H (Ex.refl H)
  exact ⟨a, ob, ys, rfl, ha, hp, hd⟩
/-- {(S, opens): True} -/
theorem ev_ndisp {j : Nat} {p2 pt : Pos} {kk : Nat} (hu : X.A.units + 9 < cLine) (hF : dueD bs (F S) = dueD bs (F S)) (ha : El X [a, b] env env1 [.r (.d (.tuple (S.map .int))), .r (.c (TfP X.K (dueD bs (F S))))])
    (hshape : (evalEachOpt [some (.Tuple [a, b] kk pt)] X.env).zip ((evalEach [.Constant (.bool true) j p2] X.env).map fun v => do let x ← v; standAt pos; pure x) = [(some (eval (.Tuple [a, b] kk pt) X.env), do let x ← eval (.Constant (.bool true) j p2) X.env; standAt pos; pure x)] := by rfl) :
    Ev X (.Dict [some (.Tuple [a, b] kk pt)] [.Constant (.bool true) j p2] pos) env env1 (.o none (Nf X.prog X.w X.K bs F [S])) := fun β σ H H1 Q S' q =>
  teW.of (pe_ndisp hu (pe_tup paW) hshape) fun p hp => by
    have u := Up.newM (o := NdO X.prog X.w p []) S'.ex hp
    have S1 := S'.up u
    have hno : ∀ i, ¬ OwnAt σ env i p := fun i w => by obtain ⟨_, o, z⟩ := w.obj S'.env; exact nomatch hp.symm.trans z
    refine ha (Bs.of σ H (upd H1 p (NdO X.prog X.w p [])) env) σ H _ _ S1.self fun vs H' H2 T ex G => ⟨sz5 (n := vs.length) (by rw [G.len]; exact Nat.le_of_ble_eq_true rfl), fun t ht => ?_⟩
    obtain ⟨v1, v2, rfl, g1, g2, _⟩ := ags2 G
    have hp2 : H2 p = some (NdO X.prog X.w p []) := T.keep p _ (fun ⟨i, w⟩ => hno i w) upd_same
    have hp0 : H' p = none := T.off p (fresh_back S'.ex hp) (by show upd H1 p _ p ≠ none; rw [upd_same]; exact fun z => nomatch z)
    obtain ⟨a', ob, ys, rfl, ha', hpl, hd⟩ := key_new (ex := T.ex) g1.d g2.ok
    have S2 := S1.back T
    have tp : p ≠ t := ne_of_none hp2 ht
    have u2 := Up.new (o := .tup [v1, .ref a']) S2.ex ht
    have S3 := S2.up u2
    have hkv : KeyV X.K bs S (F S) (.ref t) (upd H' t (.tup [v1, .ref a'])) := ⟨t, v1, a', ob, ys, rfl, upd_same, dp_ex u2.ex g1.d, u2.ex _ _ ha', hpl, dpa_ex u2.ex hd⟩
    have hbp : β.B1 p = none := by
      rcases none_or (H := β.B1) (a := p) with z | ⟨o, z⟩
      · exact z
      · exact absurd hp (S'.there p (some_ne z))
    have hno3 : ∀ i, ¬ OwnAt σ env1 i p := fun i w => by
      rcases T.own i p w with ⟨k, z⟩ | z
      · exact hno k z
      · exact nomatch z.symm.trans upd_same
    have hp3 : (upd H' t (.tup [v1, .ref a'])) p = none := by rw [upd_ne tp]; exact hp0
    refine ⟨by rw [upd_ne tp]; exact hp2, t, nkD (rkD bs S (F S)), rfl, (rkD_at hkv).ex u2.of, ?_⟩
    refine q _ _ _ (S3.touch hbp hno3 hp3) (ex.trans u2.ex) ⟨⟨p, _, rfl, (fun _ z => by cases z), hp3, upd_same, fun Hx exx => ⟨p, _, rfl, .cons ⟨rfl, hkv.ex exx⟩ .nil⟩⟩, fun _ _ _ q' eq' => by cases eq'; exact ⟨hbp, hno3⟩⟩
/-- later[S, opens] = True -/
theorem r1_nput (n : Nat) {j : Nat} {p2 pt : Pos} {kk : Nat} {d : Str → Int} (hu : X.A.units + 9 < cLine) (hF : dueD bs d = dueD bs (F S)) (h0 : env[n]? = some (.o none (Nf X.prog X.w X.K bs F Ss))) (ha : El X [a, b] env env1 [.r (.d (.tuple (S.map .int))), .r (.c (TfP X.K (dueD bs d)))]) (h1 : env1[n]? = some (.o none (Nf X.prog X.w X.K bs F Ss))) (nd : Ss.Nodup) (hl : Ss.length ≤ 100) (hN : X.N[n]? = some x := by rfl)
    (hv : Vis X.env.scope x := by first | exact Or.inl rfl | exact Or.inr (Or.inl rfl) | exact Or.inr (Or.inr rfl)) (hd : (x == ("__debug__" : Str)) = false := by decide) (hcd : (x == ("__classdict__" : Str)) = false := by decide)
    (hsw : swapsWithSole [.Subscript (.Name x p) (.Tuple [a, b] kk pt) pos'] (.Constant (.bool true) j p2) pos.line X.env = pure false := by rfl) (hw : swappedStores [.Subscript (.Name x p) (.Tuple [a, b] kk pt) pos'] (.Constant (.bool true) j p2) X.env = pure none := by rfl)
    (h3 : (assignEach [.Subscript (.Name x p) (.Tuple [a, b] kk pt) pos'] X.env).map (·.2) = [assign (.Subscript (.Name x p) (.Tuple [a, b] kk pt) pos') X.env] := by rfl)
    (hasn : ∀ v, assign (.Subscript (.Name x p) (.Tuple [a, b] kk pt) pos') X.env v = (do
      let ov ← holding [v] (eval (.Name x p) X.env)
      let iv ← holding [v, ov] (eval (.Tuple [a, b] kk pt) X.env)
      standAt pos'
      holding [v, ov, iv] (setItem ov iv v)
      release [v, ov, iv] []) := by intro _; rfl) :
    R1 X (.Assign [.Subscript (.Name x p) (.Tuple [a, b] kk pt) pos'] (.Constant (.bool true) j p2) pos) env (.nx (env1.set n (.o none (Nf X.prog X.w X.K bs F (addS Ss S))))) := fun β σ H H1 D hL S' C => by
  obtain ⟨l, u, hl', _⟩ := S'.at h0
  refine tsW.of (ps_asg pe_bl (pg_sub (pe_var hN hv hd hcd) (pe_tup paW) (set_nd hu) hasn) hsw hw h3) ⟨.ref l, hl', ha β σ H H1 _ S' fun vs H' H2 S1 ex G => ⟨sz5 (n := vs.length) (by rw [G.len]; exact Nat.le_of_ble_eq_true rfl), fun t ht => ?_⟩⟩
  obtain ⟨v1, v2, rfl, g1, g2, _⟩ := ags2 G
  obtain ⟨a', ob, ys, rfl, ha', hpl, hdd⟩ := key_new (ex := S1.ex) g1.d g2.ok
  have u2 := Up.new (o := .tup [v1, .ref a']) S1.ex ht
  have S2 := S1.up u2
  have hkv : KeyV X.K bs S (F S) (.ref t) (upd H' t (.tup [v1, .ref a'])) := ⟨t, v1, a', ob, ys, rfl, upd_same, dp_ex u2.ex g1.d, u2.ex _ _ ha', hpl, dpa_ex u2.ex (by rw [← hF]; exact hdd)⟩
  obtain ⟨l2, u', hl2, h2', d', xs, rfl, pr⟩ := S2.at h1
  have el : l2 = l := by rw [hl'] at hl2; cases hl2; rfl
  subst el
  refine ⟨l2, xs, t, nkD (rkD bs S (F S)), rfl, rfl, rfl, ⟨d', h2'⟩, (rkD_at hkv).ex u2.of, fun z hz => (rows_at pr z hz).ex S2.ex, by rw [rows_keys pr]; exact rows_nodup nd, ?_, ?_⟩
  · have := Paired.length pr; omega
  · exact C σ _ _ (S2.mut h1 hl2 fun Hx exx => ⟨l2, _, rfl, rowp_ex exx (rows_put pr hkv)⟩)
end
end Ol
set_option Elab.async false
set_option linter.all false
set_option maxRecDepth 100000
set_option maxHeartbeats 2000000
/-! OlEnds: ends. -/
namespace Ol
open PySem L2
open Evl (Ex Ex.refl Ex.trans Ex.new ex_l ex_t fresh_back sz_of sz_lt)
theorem Wk.setU : ∀ {env : List Sd} {i : Nat}, Wk env (env.set i .u)
  | [], _ => trivial
  | a :: as, 0 => Wk.refl (a := as)
  | a :: as, i + 1 => by
    have := Wk.setU (env := as) (i := i)
    show Wk (a :: as) (a :: as.set i .u)
    cases a with
    | u => exact this
    | d _ => exact ⟨rfl, this⟩
    | c _ => exact ⟨rfl, this⟩
    | o _ _ => exact ⟨rfl, this⟩
theorem St.lockAt {K : PySem.W.Frag} {β : Bs} {σ : L2.St} {H H1 : Hp} {env : List Sd} {i : Nat} {φ : HO → Hp → Prop} {s : Sd} (S : St K β σ H H1 env) (he : env[i]? = some (.o none φ)) (hL : ∀ p, ¬ β.L p) (hso : ¬ s.isO) :
    ∃ p o, H1 p = some o ∧ φ o H ∧ ∀ o', (∀ H' H2, H' p = some o' → Ex H H' → SlotOk K H' H2 (some (.ref p)) s) → St K β σ (upd H p o') (upd H1 p o') (env.set i s) := by
  have hi : i < env.length := (List.getElem?_eq_some_iff.mp he).1
  obtain ⟨x, hx, p, o, ex', _, h0, h1, m⟩ := S.env.at_ i _ he
  subst ex'
  have own : OwnAt σ env i p := ⟨hx, none, φ, he⟩
  refine ⟨p, o, h1, m H (Ex.refl H), fun o' hs => ?_⟩
  have S1 : St K β σ H H1 (env.set i .u) := S.wk Wk.setU
  have hb : β.B1 p = none := (S.loc i p φ hx he).elim (fun w => absurd w (hL p)) id
  have hn : ∀ j, ¬ OwnAt σ (env.set i .u) j p := fun j ⟨w1, a, χ, w2⟩ => by
    by_cases e : i = j
    · subst e; rw [List.getElem?_set_self hi] at w2; exact nomatch w2
    · rw [List.getElem?_set_ne e] at w2
      exact e (S.env.inj i j p own ⟨w1, a, χ, w2⟩)
  have S2 := (S1.touch (o := o') hb hn h0).freeze h0 upd_same hb hn
  have S3 := S2.set (v := .ref p) (r := s) (i := i) ⟨hs _ _ upd_same (Ex.new h0), fun a χ e => absurd (by rw [e]; exact trivial) hso⟩ (by rw [List.length_set]; exact hi)
  rw [List.set_set] at S3
  have es : σ.set i (some (.ref p)) = σ := by
    refine List.ext_getElem? fun j => ?_
    by_cases e : i = j
    · subst e; rw [List.getElem?_set_self (by rw [S.env.len]; exact hi), hx]
    · rw [List.getElem?_set_ne e]
  rw [es] at S3
  exact S3
section
variable {X : Cx} {env env1 env2 env' : List Sd} {iter tg e a b : Expr} {body rest : List Stmt} {pos p pos' : Pos} {bs : List Str} {F : List Int → Str → Int} {Ss : List (List Int)} {S : List Int} {x y : Str} {out : Out}
/-- a nested dict is no more changed -/
theorem rn_lock (i : Nat) (h : Rn X rest (env.set i (.c (Cf X.prog X.w X.K bs F Ss))) out) (hi : env[i]? = some (.o none (Nf X.prog X.w X.K bs F Ss)) := by rfl) : Rn X rest env out := fun β σ H H1 D hL S C => by
  refine ⟨fun pins s I => ?_⟩
  obtain ⟨p, o, h1, ⟨d, xs, rfl, pr⟩, f⟩ := S.lockAt (s := .c (Cf X.prog X.w X.K bs F Ss)) hi hL id
  obtain ⟨ed, _⟩ := ndO_get (I.hok p _ h1)
  subst ed
  obtain ⟨od, I2⟩ := I.lock h1 trivial
  exact (h β σ _ _ D hL (f _ fun H' H2 e ex => ⟨p, _, rfl, e, fun Hx exx => ⟨p, od, xs, rfl, rowp_ex (ex.trans exx) pr⟩⟩) C).run pins s I2
theorem fin_lock {back : List Sd} {r : Sd} (i : Nat) (h : Fin X rest (env.set i (.c (Cf X.prog X.w X.K bs F Ss))) back r) (hi : env[i]? = some (.o none (Nf X.prog X.w X.K bs F Ss)) := by rfl) : Fin X rest env back r := by
  obtain ⟨env', h2, w⟩ := h
  refine ⟨env', ?_, w⟩
  rcases h2 with h2 | ⟨er, h2⟩
  · exact .inl (rn_lock i h2 hi)
  · exact .inr ⟨er, rn_lock i h2 hi⟩
theorem rows_get {K : PySem.W.Frag} {H : Hp} {xs : List (NestedKey × Addr)} {i : Nat} {T : List Int} (h : Paired (RowP K bs F H) xs Ss) (hi : Ss[i]? = some T) : ∃ x, xs[i]? = some x ∧ KeyV K bs T (F T) (.ref x.2) H := by
  induction h generalizing i with
  | nil => simp at hi
  | cons h t ih =>
    cases i with
    | zero => simp at hi; subst hi; exact ⟨_, rfl, h.2⟩
    | succ i =>
      obtain ⟨x, h1, h2⟩ := ih (i := i) (by simpa using hi)
      exact ⟨x, by simpa using h1, h2⟩
/-- what a walk over the rows gives -/
theorem nd_walk {H H1 : Hp} {v : V} {R : It → Hp → Prop} (ex : Ex H H1) (R0 : SlotOk X.K H H1 (some v) (.c (Cf X.prog X.w X.K bs F Ss)))
    (q : ∀ J, (∀ (i : Nat) (Hb Ha : Hp), Ex H Hb → Ex Hb Ha → (∀ T, Ss[i]? = some T → J.go i Ha ∧ ∀ x Ha', J.yld i Ha x Ha' → Ha' = Ha ∧ KeyV X.K bs T (F T) x Hb) ∧ (i = Ss.length → J.stop i Ha)) → R J H1) :
    ∃ p d o xs, v = .ref p ∧ H1 p = some (.frz o (NdO X.prog X.w d xs)) ∧ (p = d → R (ItN X.prog X.w p o xs) H1) := by
  obtain ⟨p, u, ev, hp, m⟩ := R0
  cases ev
  obtain ⟨d, od, xs, rfl, pr⟩ := m H (Ex.refl H)
  refine ⟨p, d, od, xs, rfl, ex _ _ hp, fun ed => ?_⟩
  subst ed
  have hl := Paired.length pr
  refine q _ fun i Hb Ha e1 e2 => ⟨fun T hT => ?_, fun h => ⟨(e1.trans e2) _ _ hp, by omega⟩⟩
  obtain ⟨x, hx, hk⟩ := rows_get pr hT
  refine ⟨⟨(e1.trans e2) _ _ hp, (List.getElem?_eq_some_iff.mp hx).1⟩, fun y Ha' hy => ?_⟩
  obtain ⟨rfl, k, q', hkq, rfl⟩ := hy
  rw [hx] at hkq
  cases hkq
  exact ⟨rfl, hk.ex e1⟩
theorem eiP_rows (h : Ev X e env env' (.c (Cf X.prog X.w X.K bs F Ss))) : EiP X tg e env env' (Ss.map fun T => KeyV X.K bs T (F T)) := fun β σ H H1 R S q => tiW.of (pi_nd peW) (h β σ H H1 _ S fun v H' H2 S' ex R0 =>
  nd_walk S'.ex R0.ok fun J hJ => q J H' H2 S' ex fun i Hb Ha e1 e2 => ⟨fun P hP => by
    rw [List.getElem?_map] at hP
    cases hT : Ss[i]? with
    | none => rw [hT] at hP; cases hP
    | some T =>
      rw [hT] at hP
      cases hP
      obtain ⟨g, y⟩ := (hJ i Hb Ha e1 e2).1 T hT
      exact ⟨g, fun x Ha' hy => by obtain ⟨rfl, hk⟩ := y x Ha' hy; exact ⟨Hb, Up.refl e2, hk⟩⟩, fun hi => (hJ i Hb Ha e1 e2).2 (by rw [hi, List.length_map])⟩)
theorem ei_rows (h : Ev X e env env' (.c (Cf X.prog X.w X.K bs F Ss))) : Ei X tg e env env' (Ss.map fun T => rkD bs T (F T)) := fun β σ H H1 R S q => tiW.of (pi_nd peW) (h β σ H H1 _ S fun v H' H2 S' ex R0 =>
  nd_walk S'.ex R0.ok fun J hJ => q J H' H2 S' ex fun i Hb Ha e1 e2 => ⟨fun P hP => by
    rw [List.getElem?_map] at hP
    cases hT : Ss[i]? with
    | none => rw [hT] at hP; cases hP
    | some T =>
      rw [hT] at hP
      cases hP
      obtain ⟨g, y⟩ := (hJ i Hb Ha e1 e2).1 T hT
      exact ⟨g, fun x Ha' hy => by obtain ⟨rfl, hk⟩ := y x Ha' hy; exact ⟨Hb, Up.refl e2, hk.dp⟩⟩, fun hi => (hJ i Hb Ha e1 e2).2 (by rw [hi, List.length_map])⟩)
/-- done, opens = a key -/
theorem tgP_key (i j : Nat) {px py pt : Pos} {kt : Nat} {d : Str → Int} (hN : X.N.Nodup) (hi : X.N[i]? = some x := by rfl) (hj : X.N[j]? = some y := by rfl)
    (hx : Loc X.env.scope x := by first | exact Or.inl rfl | exact Or.inr rfl) (hy : Loc X.env.scope y := by first | exact Or.inl rfl | exact Or.inr rfl) (hfx : X.fn x = true ∨ X.env.scope.names.lookup x = some .local := by first | exact .inl rfl | exact .inr rfl) (hfy : X.fn y = true ∨ X.env.scope.names.lookup y = some .local := by first | exact .inl rfl | exact .inr rfl)
    (hc : X.calm = true := by rfl) (hli : i < env.length := by exact Nat.le_of_ble_eq_true rfl) (hlj : j < env.length := by exact Nat.le_of_ble_eq_true rfl)
    (h0 : (assignEach [.Name x px, .Name y py] X.env).map (·.2) = assign (.Name x px) X.env :: (assignEach [.Name y py] X.env).map (·.2) := by rfl) (h1 : (assignEach [.Name y py] X.env).map (·.2) = assign (.Name y py) X.env :: (assignEach [] X.env).map (·.2) := by rfl)
    (hl : (assignEach [.Name x px, .Name y py] X.env).length = 2 := by rfl) (hst : (assignEach [.Name x px, .Name y py] X.env).findIdx? (·.1) = none := by rfl) :
    TgP X (.Tuple [.Name x px, .Name y py] kt pt) (KeyV X.K bs S d) env ((env.set i (.d (.tuple (S.map .int)))).set j (.c (TfP X.K (dueD bs d)))) := fun β σ H H1 v Q S0 hk q => by
  obtain ⟨t, vS, a, ob, ys, rfl, h2, h3, h4, h5, h6⟩ := hk
  refine tgW.of (pg_tup hc (pgs_cons (pg_name hN hi hx hfx) (pgs_cons (pg_name hN hj hy hfy) pgs_nil h1) h0) hl hst) ⟨t, [vS, .ref a], rfl, SqT.of (S0.ex _ _ h2), rfl, vS, [.ref a], rfl, .ref a, [], rfl, rfl, q _ ?_⟩
  exact S0.set2 (.dd h3) ⟨⟨a, _, rfl, h4, fun Hx exx => ⟨ob, ys, rfl, h5, dpa_ex exx h6⟩⟩, fun _ _ z => by cases z⟩ (fun _ _ _ _ _ _ _ z => by cases z) hli hlj
end
/-! ### the rows, turn by turn -/
def inner (m : Nat) (S : List Int) (acc : List (List Int)) : List (List Int) := ((List.range m).filter fun (p : Nat) => !decide ((p : Int) ∈ S)).foldl (fun acc (p : Nat) => addS acc (setI (S ++ [(p : Int)]))) acc
def layer (m : Nat) (Ss : List (List Int)) : List (List Int) := Ss.foldl (fun acc S => inner m S acc) []
def layN (m : Nat) : Nat → List (List Int)
  | 0 => [[]]
  | k + 1 => layer m (layN m k)
def allI (m : Nat) : List Int := (List.range m).map fun (n : Nat) => (n : Int)
def okLay (m k : Nat) : Bool := (layN m k).all (fun S => decide S.Nodup && S.all (fun x => decide (0 ≤ x) && decide (x < m))) && decide ((layN m k).length ≤ 16)
theorem lay_end : ∀ m, m < 5 → layN m m = [allI m] := by decide
theorem lay_ok : ∀ m, m < 5 → ∀ k, k < 6 → okLay m k = true := by decide
theorem addS_nodup {Ss : List (List Int)} {S : List Int} (h : Ss.Nodup) : (addS Ss S).Nodup := by
  unfold addS
  split
  · exact h
  · rename_i n
    rw [List.nodup_append]
    exact ⟨h, List.pairwise_singleton _ _, fun a ha b hb e => by rw [List.mem_singleton.mp hb] at e; subst e; exact n ha⟩
theorem addS_len {Ss : List (List Int)} {S : List Int} : (addS Ss S).length ≤ Ss.length + 1 := by
  unfold addS
  split
  · exact Nat.le_succ _
  · rw [List.length_append]; exact Nat.le_refl _
end Ol
set_option Elab.async false
set_option linter.all false
set_option maxRecDepth 100000
set_option maxHeartbeats 2000000
/-! OlD4: ends. -/
namespace Ol
open PySem L2
open Evl (Ex Ex.refl Ex.trans Ex.new ex_l ex_t fresh_back sz_of sz_lt)
/-- an object of ours goes from slot j to slot i -/
theorem St.move {K : PySem.W.Frag} {β : Bs} {σ : L2.St} {H H1 : Hp} {env : List Sd} {i j : Nat} {q : Addr} {φ : HO → Hp → Prop} (S : St K β σ H H1 env) (hj : env[j]? = some (.o none φ)) (hq : σ[j]? = some (some (.ref q))) (hij : i ≠ j) (hi : i < env.length) : St K β (σ.set i (some (.ref q))) H H1 ((env.set i (.o none φ)).set j .u) := by
  have hjl : j < env.length := (List.getElem?_eq_some_iff.mp hj).1
  obtain ⟨x, hx, p, o, ex', ea, h0, h1, m⟩ := S.env.at_ j _ hj
  rw [hq] at hx
  cases hx; cases ex'
  have ownj : OwnAt σ env j q := ⟨hq, none, φ, hj⟩
  have own : ∀ k p, OwnAt (σ.set i (some (.ref q))) ((env.set i (.o none φ)).set j .u) k p → (k = i ∧ p = q) ∨ (k ≠ i ∧ k ≠ j ∧ OwnAt σ env k p) := fun k p ⟨w1, a, χ, w2⟩ => by
    by_cases e2 : j = k
    · subst e2; rw [List.getElem?_set_self (by rw [List.length_set]; exact hjl)] at w2; cases w2
    · rw [List.getElem?_set_ne e2] at w2
      by_cases e1 : i = k
      · subst e1
        rw [List.getElem?_set_self (by rw [S.env.len]; exact hi)] at w1
        cases w1
        exact .inl ⟨rfl, rfl⟩
      · rw [List.getElem?_set_ne e1] at w1 w2
        exact .inr ⟨fun z => e1 z.symm, fun z => e2 z.symm, w1, a, χ, w2⟩
  refine { env := ⟨by rw [List.length_set, List.length_set, List.length_set]; exact S.env.len, fun k s hs => ?_, fun k l p a b => ?_⟩, ex := S.ex, b := S.b, there := S.there, keep := S.keep, off := S.off, own := fun k p w => ?_, loc := fun k p χ w1 w2 => ?_ }
  · by_cases e2 : j = k
    · subst e2
      rw [List.getElem?_set_self (by rw [List.length_set]; exact hjl)] at hs
      cases hs
      exact ⟨some (.ref q), by rw [List.getElem?_set_ne hij]; exact hq, trivial⟩
    · rw [List.getElem?_set_ne e2] at hs
      by_cases e1 : i = k
      · subst e1
        rw [List.getElem?_set_self hi] at hs
        cases hs
        exact ⟨_, List.getElem?_set_self (by rw [S.env.len]; exact hi), q, o, rfl, (fun _ z => by cases z), h0, h1, m⟩
      · rw [List.getElem?_set_ne e1] at hs ⊢
        exact S.env.at_ k s hs
  · rcases own k p a with ⟨e1, e2⟩ | ⟨e1, e2, e3⟩
    · rcases own l p b with ⟨f1, f2⟩ | ⟨f1, f2, f3⟩
      · rw [e1, f1]
      · subst e2; exact absurd (S.env.inj l j _ f3 ownj) f2
    · rcases own l p b with ⟨f1, f2⟩ | ⟨f1, f2, f3⟩
      · subst f2; exact absurd (S.env.inj k j _ e3 ownj) e2
      · exact S.env.inj k l p e3 f3
  · rcases own k p w with ⟨e1, e2⟩ | ⟨e1, e2, e3⟩
    · subst e2; exact S.own j _ ownj
    · exact S.own k p e3
  · by_cases e2 : j = k
    · subst e2; rw [List.getElem?_set_self (by rw [List.length_set]; exact hjl)] at w2; cases w2
    · rw [List.getElem?_set_ne e2] at w2
      by_cases e1 : i = k
      · subst e1
        rw [List.getElem?_set_self (by rw [S.env.len]; exact hi)] at w1
        cases w1
        exact S.loc j _ φ hq hj
      · rw [List.getElem?_set_ne e1] at w1 w2
        exact S.loc k p χ w1 w2
theorem r1_move {X : Cx} {env : List Sd} {x y : Str} {px py pos : Pos} {φ : HO → Hp → Prop} (i j : Nat) (hN : X.N.Nodup) (hj : env[j]? = some (.o none φ) := by rfl) (hij : i ≠ j := by decide) (hi : X.N[i]? = some x := by rfl) (hyN : X.N[j]? = some y := by rfl) (hx : Loc X.env.scope x := by first | exact Or.inl rfl | exact Or.inr rfl) (hl : i < env.length := by exact Nat.le_of_ble_eq_true rfl)
    (hv : Vis X.env.scope y := by first | exact Or.inl rfl | exact Or.inr (Or.inl rfl) | exact Or.inr (Or.inr rfl)) (hd : (y == ("__debug__" : Str)) = false := by decide) (hcd : (y == ("__classdict__" : Str)) = false := by decide)
    (hs : swapsWith (.Name y py) (some (.Name x px)) pos.line X.env = pure false := by rfl) (hf : X.fn x = true ∨ X.env.scope.names.lookup x = some .local := by first | exact .inl rfl | exact .inr rfl) : R1 X (.Assign [.Name x px] (.Name y py) pos) env (.nx ((env.set i (.o none φ)).set j .u)) := fun β σ H H1 D hL S C => by
  obtain ⟨q, u, hq, _⟩ := S.at hj
  exact tsW.of (ps_set hN hi hx (pe_var hyN hv hd hcd) hs hf) ⟨.ref q, hq, C _ H H1 (S.move hj hq hij hl)⟩
section
variable {P : Program} {w : World} {K : PySem.W.Frag} {mg : Str → Option Value} {base : Heap}
abbrev N18 : List Str := ["book", "dues", "payments", "table", "rows", "turn", "later", "done", "opens", "place", "due", "own"]
theorem sc18 : FnScope N18 ["book", "dues", "payments"] (defScope (topS 18)) := ⟨rfl, rfl, rfl, by decide +kernel, rfl, by decide +kernel, by decide +kernel⟩
structure EndsOk (b : Bk) (bs : List Str) (ps : List (Str × Int)) (F : List Int → Str → Int) : Prop where
  sit : Sit b bs ps
  few : ps.length < 5
  step : ∀ (S : List Int) (pl : Nat), S.Nodup → (∀ x ∈ S, 0 ≤ x ∧ x < ps.length) → pl < ps.length → (pl : Int) ∉ S → (stp b ps (F S) pl).2.1 = F (setI (S ++ [(pl : Int)]))
def d_ends (ds : List PyData) (r : Sd) : Prop := ∃ (b : Bk) (bs : List Str) (ps : List (Str × Int)) (F : List Int → Str → Int), ds = [b.d, dueT bs (F []), paysD ps] ∧ EndsOk b bs ps F ∧ r = .d (.list [dueT bs (F (allI ps.length))])
def freeP (m : Nat) (S : List Int) : List Nat := (List.range m).filter fun (p : Nat) => !decide ((p : Int) ∈ S)
def notIn (S : List Int) : PyData → Option PyData
  | .int i => if (!decide (i ∈ S)) = true then some (.int i) else none
  | _ => none
theorem free_map (m : Nat) (S : List Int) : (irange 0 m).filterMap (notIn S) = (freeP m S).map fun (p : Nat) => .int p := by
  unfold irange freeP
  induction List.range m with
  | nil => rfl
  | cons a l ih =>
    rw [List.map_cons, List.filterMap_cons, List.filter_cons]
    have e0 : (0 : Int) + (a : Nat) = (a : Nat) := by omega
    rw [e0]
    by_cases h : (a : Int) ∈ S
    · have e1 : notIn S (.int (a : Nat)) = none := by
        show (if (!decide ((a : Int) ∈ S)) = true then some (PyData.int (a : Nat)) else none) = none
        rw [decide_eq_true h]; rfl
      rw [e1, decide_eq_true h]; exact ih
    · have e1 : notIn S (.int (a : Nat)) = some (.int (a : Nat)) := by
        show (if (!decide ((a : Int) ∈ S)) = true then some (PyData.int (a : Nat)) else none) = _
        rw [decide_eq_false h]; rfl
      rw [e1, decide_eq_false h]
      exact congrArg (PyData.int (a : Nat) :: ·) ih
theorem fold_addS {m : Nat} {S : List Int} : ∀ (l : List Nat) (acc : List (List Int)), acc.Nodup → (l.foldl (fun acc (p : Nat) => addS acc (setI (S ++ [(p : Int)]))) acc).Nodup ∧ (l.foldl (fun acc (p : Nat) => addS acc (setI (S ++ [(p : Int)]))) acc).length ≤ acc.length + l.length
  | [], acc, h => ⟨h, Nat.le_refl _⟩
  | p :: l, acc, h => by
    obtain ⟨h1, h2⟩ := fold_addS (m := m) (S := S) l (addS acc (setI (S ++ [(p : Int)]))) (addS_nodup h)
    refine ⟨h1, Nat.le_trans h2 ?_⟩
    have := addS_len (Ss := acc) (S := setI (S ++ [(p : Int)]))
    rw [List.length_cons]; omega
theorem free_len (m : Nat) (S : List Int) : (freeP m S).length ≤ m := by
  unfold freeP; exact Nat.le_trans (List.length_filter_le _ _) (by rw [List.length_range]; exact Nat.le_refl _)
theorem fold_inner {m : Nat} : ∀ (l : List (List Int)) (acc : List (List Int)), acc.Nodup → (l.foldl (fun acc S => inner m S acc) acc).Nodup ∧ (l.foldl (fun acc S => inner m S acc) acc).length ≤ acc.length + l.length * m
  | [], acc, h => ⟨h, by simp⟩
  | S :: l, acc, h => by
    have f := fold_addS (m := m) (S := S) (freeP m S) acc h
    obtain ⟨h1, h2⟩ := fold_inner (m := m) l (inner m S acc) f.1
    refine ⟨h1, Nat.le_trans h2 ?_⟩
    have h3 : (inner m S acc).length ≤ acc.length + (freeP m S).length := f.2
    have := free_len m S
    rw [List.length_cons, Nat.succ_mul]; omega
theorem layN_nodup (m : Nat) : ∀ k, (layN m k).Nodup
  | 0 => List.pairwise_singleton _ _
  | k + 1 => (fold_inner (layN m k) [] List.nodup_nil).1
theorem ok_ends {f : Addr} {fd : FuncData} (Fn : Fun K "ends" "ends" (topS 18) f fd) (B : Bl mg) (T : TupD P w K mg base) (U : Dn P w K mg base "lists_table" ["book"] 5 (RelD (d_lists_table K))) (Y : Dn P w K mg base "lay_on" ["row", "due", "amount"] 1 (r_lay_on K)) (Z : Dn P w K mg base "set_of" ["some"] 1 (RelD d_set_of)) :
    FnOk P w K mg base CX0 6 f fd ["book", "dues", "payments"] (spD K (RelD d_ends)) := by
  refine fn_okD Fn sc18 (fun ds r h => by obtain ⟨_, _, _, _, rfl, _⟩ := h; rfl) fun cdv A outer s H E hr ds r h => ?_
  obtain ⟨b, bs, ps, F, rfl, O, rfl⟩ := h
  have Si := O.sit
  have hfew := O.few
  have hu9 : (cxOf CX0 P w K mg base N18 "ends" (defScope (topS 18)) f cdv A outer s H E).nox.A.units + 9 < cLine := by have := hr.units; exact Nat.lt_of_le_of_lt (Nat.add_le_add_left (by decide : 9 ≤ 64) _) this
  generalize hm : ps.length = m at hfew
  show Fin _ _ [.d b.d, .d (dueT bs (F [])), .d (paysD ps), .u, .u, .u, .u, .u, .u, .u, .u, .u] [.u, .u, .u, .u, .u, .u, .u, .u, .u, .u, .u, .u] _
  let envs : Nat → List Sd := fun k => [.d b.d, .d (dueT bs (F [])), .d (paysD ps), .o none (Kf K b.kv), .o none (Nf P w K bs F (layN m k)), .u, .u, .u, .u, .u, .u, .u]
  refine fin_cons (r1_par 3 4 (el_cons (ev_f U hr (by decide) (el1 (ev 0)) ⟨[b.d], rfl, rfl, b, rfl, Si.ok, rfl⟩) (el1 (ev_ndisp (bs := bs) (F := F) (S := []) hu9 rfl (el_cons (ev_tup ed_nil) (el1 (ev_tupd T hr (by decide) (shal_due Si.len) (ev 1))))))) sc18.nd) ?_
  refine fin_cons (r1_for (ds := ps.map numP) [5] envs PassesOwn.never (ei_tup (ev 2)) (by exact ⟨rfl, rfl, rfl, rfl, rfl, trivial⟩) fun k pl hpl => ?_) ?_
  · have hk : k < m := by have := (List.getElem?_eq_some_iff.mp hpl).1; rw [List.length_map] at this; omega
    have hok := lay_ok m hfew k (by omega)
    unfold okLay at hok
    rw [Bool.and_eq_true] at hok
    have hlay : ∀ S ∈ layN m k, S.Nodup ∧ ∀ x ∈ S, 0 ≤ x ∧ x < (m : Int) := fun S hS => by
      have h1 := List.all_eq_true.mp hok.1 S hS
      rw [Bool.and_eq_true] at h1
      refine ⟨of_decide_eq_true h1.1, fun x hx => ?_⟩
      have h2 := List.all_eq_true.mp h1.2 x hx
      rw [Bool.and_eq_true] at h2
      exact ⟨of_decide_eq_true h2.1, of_decide_eq_true h2.2⟩
    have hll : (layN m k).length ≤ 16 := of_decide_eq_true hok.2
    refine ⟨_, tg_name 5 sc18.nd, ?_⟩
    refine rn_cons (r1_set 6 (ev_nnew (bs := bs) (F := F)) sc18.nd) ?_
    refine rn_lock (bs := bs) (F := F) (Ss := layN m k) 4 ?_
    show Rn _ _ [.d b.d, .d (dueT bs (F [])), .d (paysD ps), .o none (Kf K b.kv), .c (Cf P w K bs F (layN m k)), .d pl, .o none (Nf P w K bs F []), .u, .u, .u, .u, .u] _
    let envs2 : Nat → List Sd := fun j => [.d b.d, .d (dueT bs (F [])), .d (paysD ps), .o none (Kf K b.kv), .c (Cf P w K bs F (layN m k)), .u, .o none (Nf P w K bs F (((layN m k).take j).foldl (fun acc S => inner m S acc) [])), .u, .u, .u, .u, .u]
    refine rn_cons (r1_forP (ms := (layN m k).map fun T => KeyV K bs T (F T)) envs2 PassesOwn.never (eiP_rows (ev_k 4)) (by exact ⟨rfl, rfl, rfl, rfl, rfl, rfl, trivial⟩) fun j Pj hPj => ?_) ?_
    · obtain ⟨S, hS, rfl⟩ : ∃ S, (layN m k)[j]? = some S ∧ Pj = KeyV K bs S (F S) := by
        rw [List.getElem?_map] at hPj
        cases q : (layN m k)[j]? with
        | none => rw [q] at hPj; cases hPj
        | some S => rw [q] at hPj; cases hPj; exact ⟨S, rfl, rfl⟩
      obtain ⟨nS, rS⟩ := hlay S (List.mem_of_getElem? hS)
      have hj : j < (layN m k).length := (List.getElem?_eq_some_iff.mp hS).1
      have hacc := fold_inner (m := m) ((layN m k).take j) [] List.nodup_nil
      have hsn : ((layN m k).take (j + 1)).foldl (fun acc S => inner m S acc) [] = inner m S (((layN m k).take j).foldl (fun acc S => inner m S acc) []) := by
        rw [List.take_add_one, hS, List.foldl_append]; rfl
      generalize hA : ((layN m k).take j).foldl (fun acc S => inner m S acc) [] = acc at hacc hsn
      have hal : acc.length ≤ 16 * 4 := by
        have h1 := hacc.2
        rw [List.length_nil, Nat.zero_add, List.length_take] at h1
        refine Nat.le_trans h1 (Nat.mul_le_mul (by omega) (by omega))
      refine ⟨_, tgP_key 7 8 sc18.nd, ?_⟩
      show Rn _ _ [.d b.d, .d (dueT bs (F [])), .d (paysD ps), .o none (Kf K b.kv), .c (Cf P w K bs F (layN m k)), .u, .o none (Nf P w K bs F (((layN m k).take j).foldl (fun acc S => inner m S acc) [])), .d (.tuple (S.map .int)), .c (TfP K (dueD bs (F S))), .u, .u, .u] _
      rw [hA]
      let envs3 : Nat → List Sd := fun l => [.d b.d, .d (dueT bs (F [])), .d (paysD ps), .o none (Kf K b.kv), .c (Cf P w K bs F (layN m k)), .u, .o none (Nf P w K bs F (((freeP m S).take l).foldl (fun acc (p : Nat) => addS acc (setI (S ++ [(p : Int)]))) acc)), .d (.tuple (S.map .int)), .c (TfP K (dueD bs (F S))), .u, .u, .u]
      refine rn_cons (r1_for (ds := (freeP m S).map fun (p : Nat) => .int p) [9] envs3 PassesOwn.never (env1 := [.d b.d, .d (dueT bs (F [])), .d (paysD ps), .o none (Kf K b.kv), .c (Cf P w K bs F (layN m k)), .u, .o none (Nf P w K bs F acc), .d (.tuple (S.map .int)), .c (TfP K (dueD bs (F S))), .u, .u, .u])
        (ei_list (Ev.dc (.frz (ev_lcq _ [("own", 11)] (notIn S) sc18.nd (ei_range1 (n := (m : Nat)) B.range (ed1 (Ev.dc (ev_lenT (ds := ps.map numP) B.len (ed1 (ev 2))) (by rw [List.length_map, hm]))) (by omega) (by omega))
          (blkOk_by (N := N18) (sc := defScope (topS 18)) (by decide +kernel)) (by rw [irange_len]; omega) (fun x hx => ?_) ⟨rfl, trivial⟩)) (congrArg PyData.list (free_map m S)))) (by exact ⟨rfl, rfl, rfl, rfl, rfl, rfl, rfl, rfl, trivial⟩) fun l q hq => ?_) ?_
      · obtain ⟨i, hi⟩ := List.mem_iff_getElem?.mp hx
        obtain ⟨hlt, rfl⟩ := irange_get hi
        exact lct_if (bb := !decide ((0 + (i : Nat) : Int) ∈ S)) 11 rfl (fun _ _ _ _ _ => tg_name 11 sc18.nd) (fun _ _ _ _ _ => et_cmp op_notIn_seq (rv_ninI (x := 0 + (i : Nat)) (ns := S)) (ev 11) (ev 7)) fun _ _ _ _ _ _ => ev 11
      · obtain ⟨c, hc, rfl⟩ : ∃ c, (freeP m S)[l]? = some c ∧ q = .int (c : Nat) := by
          rw [List.getElem?_map] at hq
          cases q' : (freeP m S)[l]? with
          | none => rw [q'] at hq; cases hq
          | some c => rw [q'] at hq; cases hq; exact ⟨c, rfl, rfl⟩
        have hcm := List.mem_of_getElem? hc
        unfold freeP at hcm
        rw [List.mem_filter, List.mem_range] at hcm
        have hcS : (c : Int) ∉ S := fun z => by rw [decide_eq_true z] at hcm; exact nomatch hcm.2
        have hcp : c < ps.length := by rw [hm]; exact hcm.1
        have hl : l < (freeP m S).length := (List.getElem?_eq_some_iff.mp hc).1
        have hfl := free_len m S
        have hfold := fold_addS (m := m) (S := S) ((freeP m S).take l) acc hacc.1
        have hsn3 : ((freeP m S).take (l + 1)).foldl (fun acc (p : Nat) => addS acc (setI (S ++ [(p : Int)]))) acc = addS (((freeP m S).take l).foldl (fun acc (p : Nat) => addS acc (setI (S ++ [(p : Int)]))) acc) (setI (S ++ [(c : Int)])) := by
          rw [List.take_add_one, hc, List.foldl_append]; rfl
        generalize hA3 : ((freeP m S).take l).foldl (fun acc (p : Nat) => addS acc (setI (S ++ [(p : Int)]))) acc = acc3 at hfold hsn3
        have hg : (ps.map numP)[c]? = some (numP (pay ps c)) := by rw [List.getElem?_map, pay_get hcp]; rfl
        have hrow : ((pay ps c).1, rowOf b (pay ps c).1) ∈ b.rows := mem_rowOf (Si.pay _ (pay_mem hcp))
        have hstep := O.step S c nS (by rw [hm]; exact rS) hcp hcS
        have hSl : S.length ≤ 40 := by
          refine Decidable.byContradiction fun hgt => ?_
          have h3 : ∀ (S : List Int) (m : Nat), S.Nodup → (∀ x ∈ S, 0 ≤ x ∧ x < (m : Int)) → S.length ≤ m := by
            intro S m
            induction m generalizing S with
            | zero => intro _ h; cases S with | nil => exact Nat.le_refl _ | cons a t => have := h a (List.mem_cons_self ..); omega
            | succ m ih =>
              intro nd h
              have e := ih (S.erase (m : Int)) (nd.erase _) fun x hx => by
                have h1 := h x (List.mem_of_mem_erase hx)
                have h2 : x ≠ (m : Int) := fun z => by subst z; exact (List.Nodup.not_mem_erase nd) hx
                omega
              have := List.length_erase (a := (m : Int)) (l := S)
              split at this <;> omega
          have := h3 S m nS rS
          omega
        refine ⟨_, tg_name 9 sc18.nd, ?_⟩
        show Rn _ _ [.d b.d, .d (dueT bs (F [])), .d (paysD ps), .o none (Kf K b.kv), .c (Cf P w K bs F (layN m k)), .u, .o none (Nf P w K bs F (((freeP m S).take l).foldl (fun acc (p : Nat) => addS acc (setI (S ++ [(p : Int)]))) acc)), .d (.tuple (S.map .int)), .c (TfP K (dueD bs (F S))), .d (.int (c : Nat)), .u, .u] _
        rw [hA3]
        refine rn_cons (r1_set 10 (ev_dicP (dueK_pairs bs (F S)) (kvT_nodup (by rw [dueP_keys]; exact Si.nd)) B.dict (ev_k 8)) sc18.nd) ?_
        refine rn_cons (r1_expr (ev_fB 1 10 Y hr (by decide) (el_cons (ev_dget 3 (k := Sum.inr (pay ps c).1) (Bk.look Si.ok hrow) (hu_of hr) (ev_ixt (i := 0) (ds := [.str (pay ps c).1, .int (pay ps c).2]) rfl (ev_ixt (atI_nat hg) (ev 2) (ev 9)) ev_int)) (el_b 10 (el1 (ev_ixt (i := 1) (ds := [.str (pay ps c).1, .int (pay ps c).2]) rfl (ev_ixt (atI_nat hg) (ev 2) (ev 9)) ev_int))))
          ⟨rowOf b (pay ps c).1, bs, F S, (pay ps c).2, rfl, rfl, rfl, Si.ok.row _ hrow, Si.len, Si.sub _ hrow⟩)) ?_
        show Rn _ _ [.d b.d, .d (dueT bs (F [])), .d (paysD ps), .o none (Kf K b.kv), .c (Cf P w K bs F (layN m k)), .u, .o none (Nf P w K bs F acc3), .d (.tuple (S.map .int)), .c (TfP K (dueD bs (F S))), .d (.int (c : Nat)), .o none (Kf K (dueK bs (stp b ps (F S) c).2.1)), .u] _
        refine rn_cons (r1_nput (bs := bs) (F := F) (S := setI (S ++ [(c : Int)])) (d := (stp b ps (F S) c).2.1) 6 hu9 (by rw [hstep]) rfl (el_cons (ev_f Z hr (by decide) (el1 (Ev.dc (ev_tup (ed_starT (ev 7) (ed1 (ev 9))) (by rw [List.length_append, List.length_map]; show S.length + 1 ≤ 100000; omega)) (show PyData.tuple (S.map PyData.int ++ [.int (c : Nat)]) = .tuple ((S ++ [(c : Int)]).map .int) by rw [List.map_append]; rfl)))
          ⟨[.tuple ((S ++ [(c : Int)]).map .int)], rfl, rfl, _, rfl, rfl, by rw [List.length_append]; show S.length + 1 < 64; omega⟩) (el1 (Ev.cast (ev_tupF B.tuple (ed1 (.frz (ev_srtI 10 (ks := dueP bs (stp b ps (F S) c).2.1) B.sorted (by rw [dueP_keys]; exact Si.nd))))) (by rw [srt_due Si.rise Si.nd, dueP_pairs])))) rfl hfold.1 (by
            have h4 := hfold.2; rw [List.length_take] at h4; omega)) ?_
        refine rn_nil.wk ?_
        show Wk [_, _, _, _, _, _, .o none (Nf P w K bs F (addS acc3 (setI (S ++ [(c : Int)])))), _, _, _, _, _] [.d b.d, .d (dueT bs (F [])), .d (paysD ps), .o none (Kf K b.kv), .c (Cf P w K bs F (layN m k)), .u, .o none (Nf P w K bs F (((freeP m S).take (l + 1)).foldl (fun acc (p : Nat) => addS acc (setI (S ++ [(p : Int)]))) acc)), .d (.tuple (S.map .int)), .c (TfP K (dueD bs (F S))), .u, .u, .u]
        rw [hsn3]
        exact ⟨rfl, rfl, rfl, rfl, rfl, rfl, rfl, rfl, trivial⟩
      · refine rn_nil.wk ?_
        show Wk [.d b.d, .d (dueT bs (F [])), .d (paysD ps), .o none (Kf K b.kv), .c (Cf P w K bs F (layN m k)), .u, .o none (Nf P w K bs F (((freeP m S).take ((freeP m S).map fun (p : Nat) => PyData.int p).length).foldl (fun acc (p : Nat) => addS acc (setI (S ++ [(p : Int)]))) acc)), .d (.tuple (S.map .int)), .c (TfP K (dueD bs (F S))), .u, .u, .u]
          [.d b.d, .d (dueT bs (F [])), .d (paysD ps), .o none (Kf K b.kv), .c (Cf P w K bs F (layN m k)), .u, .o none (Nf P w K bs F (((layN m k).take (j + 1)).foldl (fun acc S => inner m S acc) [])), .u, .u, .u, .u, .u]
        rw [hsn, List.length_map, List.take_length]
        exact ⟨rfl, rfl, rfl, rfl, rfl, rfl, trivial⟩
    · refine rn_cons (r1_move 4 6 sc18.nd) ?_
      refine rn_nil.wk ?_
      show Wk [_, _, _, _, .o none (Nf P w K bs F (((layN m k).take ((layN m k).map fun T => KeyV K bs T (F T)).length).foldl (fun acc S => inner m S acc) [])), _, .u, _, _, _, _, _] [.d b.d, .d (dueT bs (F [])), .d (paysD ps), .o none (Kf K b.kv), .o none (Nf P w K bs F (layN m (k + 1))), .u, .u, .u, .u, .u, .u, .u]
      rw [List.length_map, List.take_length]
      exact ⟨rfl, rfl, rfl, rfl, rfl, trivial⟩
  · show Fin _ _ [.d b.d, .d (dueT bs (F [])), .d (paysD ps), .o none (Kf K b.kv), .o none (Nf P w K bs F (layN m (ps.map numP).length)), .u, .u, .u, .u, .u, .u, .u] _ _
    rw [List.length_map, hm, lay_end m hfew]
    refine fin_lock (bs := bs) (F := F) (Ss := [allI m]) 4 ?_
    show Fin _ _ [.d b.d, .d (dueT bs (F [])), .d (paysD ps), .o none (Kf K b.kv), .c (Cf P w K bs F [allI m]), .u, .u, .u, .u, .u, .u, .u] _ _
    refine fin_ret (Ev.frz (ev_srt1 (ds := [dueT bs (F (allI m))]) (Nat.le_refl _) B.sorted (ed1 (.frz (ev_lcq (ds := [rkD bs (allI m) (F (allI m))]) _ [("done", 7), ("opens", 8)] snd2 sc18.nd (ei_rows (Ss := [allI m]) (bs := bs) (F := F) (ev_k 4)) (blkOk_by (N := N18) (sc := defScope (topS 18)) (by decide +kernel)) (Nat.le_of_ble_eq_true rfl) (fun x hx => ?_) ⟨rfl, rfl, trivial⟩)))))
    rw [List.mem_singleton.mp hx]
    exact lct_two 7 8 rfl rfl (fun _ _ _ _ _ => tg_tup (tgs_cons (tg_name 7 sc18.nd) (tgs_cons (tg_name 8 sc18.nd) tgs_nil))) fun _ _ _ _ _ => ev 8
end
end Ol
set_option Elab.async false
set_option linter.all false
set_option maxRecDepth 100000
set_option maxHeartbeats 2000000
/-! OlL1: the law's own defs: box, take, of, cells, folk, mixed. -/
namespace Ol
open PySem L2
open Evl (Ex Ex.refl Ex.trans Ex.new ex_l ex_t fresh_back sz_of sz_lt)
structure Urn where
  lead : Int
  seed : Int
  cnt : Nat
def Urn.ds (u : Urn) : List PyData := [.int u.lead, .int u.seed, .int (u.cnt : Int)]
abbrev Uf (K : PySem.W.Frag) (u : Urn) : HO → Hp → Prop := Lf K u.ds
def once (u : Urn) : Int := ((u.seed + 48271 * ((u.cnt + 1 : Nat) : Int)) * (39373 + ((u.cnt + 1 : Nat) : Int))) % 2147483647
def twice (u : Urn) : Int := ((once u + ((u.cnt + 1 : Nat) : Int) + u.seed / 1000003) * (once u % 40009 + 7)) % 2147483629
def takeF (u : Urn) (low : Int) : Int × Urn :=
  if 0 < u.lead then (u.lead % low, ⟨u.lead / low, u.seed, u.cnt⟩) else (((twice u * 48271 + once u) % 2147483587 / 64) % low, ⟨u.lead, u.seed, u.cnt + 1⟩)
theorem takeF_in {u : Urn} {low : Int} (h : 0 < low) : 0 ≤ (takeF u low).1 ∧ (takeF u low).1 < low := by
  unfold takeF
  split
  · exact ⟨Int.emod_nonneg _ (by omega), Int.emod_lt_of_pos _ h⟩
  · exact ⟨Int.emod_nonneg _ (by omega), Int.emod_lt_of_pos _ h⟩
theorem takeF_cnt {u : Urn} {low : Int} : (takeF u low).2.cnt ≤ u.cnt + 1 := by
  unfold takeF
  split
  · exact Nat.le_succ _
  · exact Nat.le_refl _
section
variable {X : Cx} {env env1 env2 back : List Sd} {e a b c : Expr} {st : Stmt} {rest body ss : List Stmt} {pos : Pos} {r : Sd} {ds ds2 : List PyData}
def FinR (X : Cx) (body : List Stmt) (env back : List Sd) (r : Sd) : Prop := ∃ env', Rn X body env (.rt env' r) ∧ Wk env' back
theorem finr_ret (he : Ev X e env env1 r) (w : Wk env1 back := by exact trivial) : FinR X (.Return (some e) pos :: rest) env back r := ⟨env1, rn_last (r1_ret he), w⟩
theorem finr_cons (h : R1 X st env (.nx env1)) (hr : FinR X rest env1 back r) : FinR X (st :: rest) env back r := by
  obtain ⟨env', h2, w⟩ := hr
  exact ⟨env', rn_cons h h2, w⟩
theorem fin_ifB {bb : Bool} {ts : List Stmt} (hc : Et X c env env1 bb) (hb : bb = true) (h : FinR X ss env1 back r) : Fin X (.If c ss ts pos :: rest) env back r := by
  obtain ⟨env', h2, w⟩ := h
  exact ⟨env', .inl (rn_last (r1_if hc (fun _ => h2) fun z => by rw [hb] at z; cases z)), w⟩
/-- xs or ys, new lists -/
theorem ev_orL (ha : Ev X a env env1 (.o none (Lf X.K ds))) (h1 : ds ≠ [] → env1 = env2 ∧ ds = ds2) (h2 : ds = [] → Ev X (.BoolOp .Or [b] pos) env1 env2 (.o none (Lf X.K ds2))) : Ev X (.BoolOp .Or [a, b] pos) env env2 (.o none (Lf X.K ds2)) := fun β σ H H1 Q S q =>
  teW.of (pe_orT peW peW) (ha β σ H H1 _ S fun v H' H2 S' ex R => by
    obtain ⟨l, ys, rfl, hl, hd⟩ := R.lst
    refine ⟨!ys.isEmpty, .inl ⟨ys, SqL.of hl, rfl⟩, ?_⟩
    cases hd with
    | nil =>
      exact iteF (h2 rfl β σ H' H2 _ S' fun v Ha Hb Sb eb Rb => q v Ha Hb Sb (ex.trans eb) Rb)
    | cons p t =>
      obtain ⟨e1, e2⟩ := h1 (by simp)
      subst e1 e2
      exact iteT (q _ H' H2 S' ex R))
end
theorem cmul_r {i j : Int} (h1 : -(2 ^ 64) < j) (h2 : j < 2 ^ 64) : CMul i j := .inr ⟨h1, h2⟩
theorem cmul_l {i j : Int} (h1 : -(2 ^ 64) < i) (h2 : i < 2 ^ 64) : CMul i j := .inl ⟨h1, h2⟩
theorem once_in (u : Urn) : 0 ≤ once u ∧ once u < 2147483647 := by
  unfold once
  exact ⟨Int.emod_nonneg _ (by omega), Int.emod_lt_of_pos _ (by omega)⟩
theorem twice_in (u : Urn) : 0 ≤ twice u ∧ twice u < 2147483629 := by
  unfold twice
  exact ⟨Int.emod_nonneg _ (by omega), Int.emod_lt_of_pos _ (by omega)⟩
section
variable {P : Program} {w : World} {K : PySem.W.Frag} {mg : Str → Option Value} {base : Heap}
/-! ### take -/
theorem sc23 : FnScope ["_law_urn", "_law_low_so", "_law_drawn", "_law_once", "_law_far", "_law_twice"] ["_law_urn", "_law_low_so"] (defScope (topS 23)) := ⟨rfl, rfl, rfl, by decide +kernel, rfl, by decide +kernel, by decide +kernel⟩
def r_take (K : PySem.W.Frag) : Rel := fun as as' r => ∃ (u : Urn) (low : Int), as = [.o none (Uf K u), .d (.int low)] ∧ as' = [.o none (Uf K (takeF u low).2), .u] ∧ r = .d (.int (takeF u low).1) ∧ 0 < low ∧ low < 1000 ∧ u.cnt < 1000000
theorem back_o1 {φ φ' : HO → Hp → Prop} {n : Nat} {l : List Sd} (hl : l.length = n) : Back (.o none φ :: l) (.o none φ' :: List.replicate n .u) := by
  refine ⟨by rw [List.length_cons, List.length_cons, List.length_replicate, hl], fun i s h => ?_⟩
  cases i with
  | zero => cases h; exact .inr ⟨_, none, _, rfl, rfl⟩
  | succ i =>
    rw [List.getElem?_cons_succ, List.getElem?_replicate] at h
    split at h
    · cases h; exact .inl rfl
    · cases h
theorem ok_take {f : Addr} {fd : FuncData} (F : Fun K "_law_take" "_law_take" (topS 23) f fd) (B : Bl mg) : FnOk P w K mg base CX0 1 f fd ["_law_urn", "_law_low_so"] (spD K (r_take K)) := by
  refine fn_ok F sc23 (fun as as' r h => ?_) fun cdv A outer s H E hr vs as as' r h hl hO => ?_
  · obtain ⟨u, low, rfl, rfl, _⟩ := h
    exact ⟨rfl, back_o1 (n := 1) rfl⟩
  · obtain ⟨u, low, rfl, rfl, rfl, h1, h2, h3⟩ := h
    obtain ⟨p, hp⟩ := hO 0 _ _ rfl
    match vs, hl, hp with
    | [v0, v1], _, hp =>
      cases hp
      have e0 : ∀ φ : HO → Hp → Prop, ∀ d, addr [.ref p, v1] [.o none φ, d] = [.o (some p) φ, d] ∨ ∃ a ψ, d = .o a ψ := fun φ d => by
        cases d with
        | o a ψ => exact .inr ⟨a, ψ, rfl⟩
        | u => left; cases v1 <;> rfl
        | d _ => left; cases v1 <;> rfl
        | c _ => left; cases v1 <;> rfl
      have e1 := (e0 (Uf K u) (.d (.int low))).resolve_right fun ⟨a, ψ, z⟩ => by cases z
      have e2 := (e0 (Uf K (takeF u low).2) .u).resolve_right fun ⟨a, ψ, z⟩ => by cases z
      rw [e1, e2]
      show Fin _ _ [.o (some p) (Uf K u), .d (.int low), .u, .u, .u, .u] [.o (some p) (Uf K (takeF u low).2), .u, .u, .u, .u, .u] _
      have i0 : ∀ (env : List Sd), True := fun _ => trivial
      have n1 := once_in u
      have n2 := twice_in u
      have lt1 : (0 : Int) ≤ ((u.cnt + 1 : Nat) : Int) ∧ ((u.cnt + 1 : Nat) : Int) ≤ 1000001 := ⟨by omega, by omega⟩
      by_cases c : 0 < u.lead
      · have hF : takeF u low = (u.lead % low, ⟨u.lead / low, u.seed, u.cnt⟩) := by unfold takeF; rw [if_pos c]
        rw [hF]
        refine fin_ifB (et_gt (i := u.lead) (ev_ixO (ds := u.ds) (j := 0) 0 rfl ev_int) ev_int) (decide_eq_true c) ?_
        refine finr_cons (r1_set 2 (ev_mod (ev_intI B.int (ed1 (ev_ixO (ds := u.ds) (j := 0) 0 rfl ev_int))) (ev 1) h1) sc23.nd) ?_
        refine finr_cons (r1_seti (ds := u.ds) 0 (ev_fdiv (ev_ixO (ds := u.ds) (j := 0) 0 rfl ev_int) (ev 1) ⟨h1, by omega⟩) (ev_int (i := 0)) rfl) ?_
        exact finr_ret (ev 2) (by exact ⟨rfl, trivial⟩)
      · have hF : takeF u low = (((twice u * 48271 + once u) % 2147483587 / 64) % low, ⟨u.lead, u.seed, u.cnt + 1⟩) := by unfold takeF; rw [if_neg c]
        rw [hF]
        let u1 : Urn := ⟨u.lead, u.seed, u.cnt + 1⟩
        refine fin_ifN (et_gt (i := u.lead) (ev_ixO (ds := u.ds) (j := 0) 0 rfl ev_int) ev_int) (decide_eq_false c) ?_
        refine fin_cons (r1_seti (ds := u.ds) (j := 2) (k := 2) 0 (ev_add (ev_ixO (ds := u.ds) (j := 2) (d := .int (u.cnt : Int)) 0 rfl ev_int) ev_int) ev_int rfl) ?_
        show Fin _ _ [.o (some p) (Uf K u1), .d (.int low), .u, .u, .u, .u] _ _
        refine fin_cons (r1_set 3 (ev_mod (ev_intI B.int (ed1 (ev_mul (ev_add (ev_ixO (ds := u1.ds) (j := 1) (d := .int u.seed) 0 rfl ev_int) (ev_mul ev_int (ev_ixO (ds := u1.ds) (j := 2) (d := .int ((u.cnt + 1 : Nat) : Int)) 0 rfl ev_int) (cmul_l (by decide) (by decide)))) (ev_add ev_int (ev_ixO (ds := u1.ds) (j := 2) (d := .int ((u.cnt + 1 : Nat) : Int)) 0 rfl ev_int)) (cmul_r (by omega) (by omega))))) ev_int (by decide)) sc23.nd) ?_
        refine fin_cons (r1_set 4 (ev_add (ev_mod (ev_intI (i := once u) B.int (ed1 (ev 3))) (ev_int (i := 40009)) (by decide)) (ev_int (i := 7))) sc23.nd) ?_
        refine fin_cons (r1_set 5 (ev_mod (ev_intI B.int (ed1 (ev_mul (ev_add (ev_add (ev (d := .int (once u)) 3) (ev_ixO (ds := u1.ds) (j := 2) (d := .int ((u.cnt + 1 : Nat) : Int)) 0 rfl ev_int)) (ev_fdiv (ev_ixO (ds := u1.ds) (j := 1) (d := .int u.seed) 0 rfl ev_int) (ev_int (i := 1000003)) ⟨by decide, by decide⟩)) (ev (d := .int (once u % 40009 + 7)) 4) (cmul_r (by omega) (by omega))))) (ev_int (i := 2147483629)) (by decide)) sc23.nd) ?_
        exact fin_ret (ev_mod (ev_intI B.int (ed1 (ev_fdiv (ev_mod (ev_intI B.int (ed1 (ev_add (ev_mul (ev (d := .int (twice u)) 5) (ev_int (i := 48271)) (cmul_r (by decide) (by decide))) (ev (d := .int (once u)) 3)))) (ev_int (i := 2147483587)) (by decide)) (ev_int (i := 64)) ⟨by decide, by decide⟩))) (ev 1) h1) (by exact ⟨rfl, trivial⟩)
/-! ### of -/
theorem sc25 : FnScope ["_law_urn", "_law_some_so"] ["_law_urn", "_law_some_so"] (defScope (topS 25)) := ⟨rfl, rfl, rfl, by decide +kernel, rfl, by decide +kernel, by decide +kernel⟩
def ofI (u : Urn) (ns : List Int) : Int := ns.getD (takeF u ns.length).1.toNat 0
def r_of (K : PySem.W.Frag) : Rel := fun as as' r => ∃ (u : Urn) (ns : List Int), as = [.o none (Uf K u), .d (.list (ns.map .int))] ∧ as' = [.o none (Uf K (takeF u ns.length).2), .u] ∧ r = .d (.int (ofI u ns)) ∧ ns ≠ [] ∧ ns.length < 100 ∧ u.cnt < 1000000
theorem takeF_ix {α : Type} {u : Urn} {l : List α} (h : l ≠ []) : (takeF u l.length).1.toNat < l.length ∧ (((takeF u l.length).1.toNat : Nat) : Int) = (takeF u l.length).1 := by
  have hl : 0 < l.length := List.length_pos_iff.mpr h
  have := takeF_in (u := u) (low := l.length) (by omega)
  omega
theorem ofI_mem {u : Urn} {ns : List Int} (h : ns ≠ []) : ofI u ns ∈ ns := by
  have := (takeF_ix (u := u) h).1
  unfold ofI
  rw [List.getD_eq_getElem?_getD, List.getElem?_eq_getElem this]
  exact List.getElem_mem this
theorem ok_of {f : Addr} {fd : FuncData} (F : Fun K "_law_of" "_law_of" (topS 25) f fd) (B : Bl mg) (T : Dn P w K mg base "_law_take" ["_law_urn", "_law_low_so"] 1 (r_take K)) : FnOk P w K mg base CX0 2 f fd ["_law_urn", "_law_some_so"] (spD K (r_of K)) := by
  refine fn_ok F sc25 (fun as as' r h => ?_) fun cdv A outer s H E hr vs as as' r h hl hO => ?_
  · obtain ⟨u, low, rfl, rfl, _⟩ := h
    exact ⟨rfl, back_o1 (n := 1) rfl⟩
  · obtain ⟨u, ns, rfl, rfl, rfl, h1, h2, h3⟩ := h
    obtain ⟨p, hp⟩ := hO 0 _ _ rfl
    match vs, hl, hp with
    | [v0, v1], _, hp =>
      cases hp
      have e1 : addr [.ref p, v1] [.o none (Uf K u), .d (.list (ns.map .int))] = [.o (some p) (Uf K u), .d (.list (ns.map .int))] := by cases v1 <;> rfl
      have e2 : addr [.ref p, v1] [.o none (Uf K (takeF u ns.length).2), .u] = [.o (some p) (Uf K (takeF u ns.length).2), .u] := by cases v1 <;> rfl
      rw [e1, e2]
      show Fin _ _ [.o (some p) (Uf K u), .d (.list (ns.map .int))] [.o (some p) (Uf K (takeF u ns.length).2), .u] _
      obtain ⟨i1, i2⟩ := takeF_ix (u := u) h1
      have hpos : 0 < ns.length := List.length_pos_iff.mpr h1
      refine fin_ret (ev_ixl (i := (takeF u ns.length).1) (ds := ns.map .int) ?_ (ev 1) (ev_fB 0 0 T hr (Nat.le_refl _) (el_b 0 (el1 (Ev.dc (ev_lenL (ds := ns.map .int) B.len (ed1 (ev 1))) (by rw [List.length_map])))) ⟨u, ns.length, rfl, rfl, rfl, by omega, by omega, h3⟩)) (by exact ⟨rfl, trivial⟩)
      rw [← i2]
      refine atI_nat ?_
      rw [List.getElem?_map, List.getElem?_eq_getElem i1]
      show some (PyData.int ns[(takeF u ns.length).1.toNat]) = _
      unfold ofI
      rw [List.getD_eq_getElem?_getD, List.getElem?_eq_getElem i1]
      rfl
/-! ### box -/
theorem sc22 : FnScope ["_law_script", "_law_k", "_law_great_so", "_law_lead_so"] ["_law_script", "_law_k"] (defScope (topS 22)) := ⟨rfl, rfl, rfl, by decide +kernel, rfl, by decide +kernel, by decide +kernel⟩
def boxF (n : Int) (k : Nat) : Urn := ⟨absI n * b2n (decide ((10 : Int) ^ (18 : Int).toNat ≤ absI n)), n % 2305843009213693951 + 39373 * (k : Int) + 1050315, 0⟩
def d_box (K : PySem.W.Frag) (ds : List PyData) (r : Sd) : Prop := ∃ (ns : List Int) (k : Nat) (n : Int), ds = [.list (ns.map .int), .int (k : Int)] ∧ ns[k]? = some n ∧ r = .o none (Uf K (boxF n k))
theorem ok_box {f : Addr} {fd : FuncData} (F : Fun K "_law_box" "_law_box" (topS 22) f fd) (B : Bl mg) : FnOk P w K mg base CX0 1 f fd ["_law_script", "_law_k"] (spD K (RelD (d_box K))) := by
  refine fn_okD F sc22 (fun ds r h => by obtain ⟨_, _, _, rfl, _⟩ := h; rfl) fun cdv A outer s H E hr ds r h => ?_
  obtain ⟨ns, k, n, rfl, hk, rfl⟩ := h
  show Fin _ _ [.d (.list (ns.map .int)), .d (.int (k : Int)), .u, .u] [.u, .u, .u, .u] _
  have hkl : k < ns.length := (List.getElem?_eq_some_iff.mp hk).1
  have hlt : decide ((k : Int) < ((ns.map PyData.int).length : Nat)) = true := by rw [List.length_map]; exact decide_eq_true (by omega)
  refine fin_cons (r1_set 2 (ev_if (r := .d (.int n)) (et_lt (ev 1) (ev_lenL (ds := ns.map .int) B.len (ed1 (ev 0)))) (fun _ => ev_ixl (i := (k : Int)) (ds := ns.map .int) (atI_nat (by rw [List.getElem?_map, hk]; rfl)) (ev 0) (ev 1)) fun z => by rw [hlt] at z; cases z) sc22.nd) ?_
  refine fin_cons (r1_set 3 (ev_mul (ev_abs (i := n) B.abs (ed1 (ev 2))) (ev_intB B.int (ed1 (ev_ge (i := absI n) (j := (10 : Int) ^ (18 : Int).toNat) (ev_abs (i := n) B.abs (ed1 (ev 2))) (ev_pow ev_int ev_int ⟨by decide, by decide, by decide⟩)))) (cmul_r (by unfold b2n; split <;> decide) (by unfold b2n; split <;> decide))) sc22.nd) ?_
  exact fin_ret (ev_lst (ed_cons (ev 3) (ed2 (ev_add (ev_add (ev_mod (ev_intI (i := n) B.int (ed1 (ev 2))) (ev_int (i := 2305843009213693951)) (by decide)) (ev_mul (ev_int (i := 39373)) (ev (d := .int (k : Int)) 1) (cmul_l (by decide) (by decide)))) (ev_int (i := 1050315))) (ev_int (i := 0)))))
/-! ### folk -/
theorem sc30 : FnScope ["_law_tags_here", "_law_lists_so"] ["_law_tags_here", "_law_lists_so"] (defScope (topS 30)) := ⟨rfl, rfl, rfl, by decide +kernel, rfl, by decide +kernel, by decide +kernel⟩
def letters : List Str := ["p", "q", "r", "s", "t", "u"]
def folkB (tags : List Str) (lists : List (List Str)) : Bk := ⟨srtS tags, letters.zip lists⟩
def d_folk (ds : List PyData) (r : Sd) : Prop := ∃ (tags : List Str) (lists : List (List Str)), ds = [.list (tags.map .str), .list (lists.map rowD)] ∧ tags.length < 64 ∧ r = .d (folkB tags lists).d
theorem zip_rows : ∀ (ls : List Str) (lists : List (List Str)), zipD (ls.map .str) (lists.map rowD) = (ls.zip lists).map payD
  | [], _ => rfl
  | _ :: _, [] => rfl
  | a :: ls, b :: lists => congrArg (payD (a, b) :: ·) (zip_rows ls lists)
theorem ok_folk {f : Addr} {fd : FuncData} (F : Fun K "_law_folk" "_law_folk" (topS 30) f fd) (B : Bl mg) : FnOk P w K mg base CX0 1 f fd ["_law_tags_here", "_law_lists_so"] (spD K (RelD d_folk)) := by
  refine fn_okD F sc30 (fun ds r h => by obtain ⟨_, _, rfl, _⟩ := h; rfl) fun cdv A outer s H E hr ds r h => ?_
  obtain ⟨tags, lists, rfl, hl, rfl⟩ := h
  show Fin _ _ [.d (.list (tags.map .str)), .d (.list (lists.map rowD))] [.u, .u] _
  refine fin_ret (Ev.dc (ev_tup (ed2 (ev_tupL B.tuple (ed1 (.frz (ev_srtS (ns := tags) hl B.sorted (ed1 (ev 0)))))) (ev_tupZ (ds := letters.map .str) B.tuple (ez_zip B.zip (ed2 (.frz (ev_lst (ed_cons ev_str (ed_cons ev_str (ed_cons ev_str (ed_cons ev_str (ed2 ev_str ev_str))))))) (ev 1)))))) ?_)
  rw [zip_rows]
  rfl
end
end Ol
set_option Elab.async false
set_option linter.all false
set_option maxRecDepth 100000
set_option maxHeartbeats 2000000
/-! OlL2: cells, mixed, tags. -/
namespace Ol
open PySem L2
open Evl (Ex Ex.refl Ex.trans Ex.new ex_l ex_t fresh_back sz_of sz_lt)
theorem cutD_map {α β : Type} (f : α → β) (l : List α) (lo hi : Option Int) : cutD (l.map f) lo hi = (cutD l lo hi).map f := by
  unfold cutD
  rw [List.length_map, List.map_take, List.map_drop]
theorem cutD_len {α : Type} (l : List α) (lo hi : Option Int) : (cutD l lo hi).length ≤ l.length := by
  unfold cutD; rw [List.length_take, List.length_drop]; omega
theorem cutD_to {α : Type} (l : List α) (k : Nat) : cutD l none (some (k : Int)) = l.take k := by
  unfold cutD
  rw [HT.sIx_none, HT.sIx_nat, List.drop_zero, Nat.sub_zero]
  rcases Nat.le_total k l.length with h | h
  · rw [Nat.min_eq_left h]
  · rw [Nat.min_eq_right h, List.take_length, List.take_of_length_le h]
theorem cutD_from {α : Type} (l : List α) (k : Nat) : cutD l (some (k : Int)) none = l.drop k := by
  unfold cutD
  rw [HT.sIx_none, HT.sIx_nat]
  rcases Nat.le_total k l.length with h | h
  · rw [Nat.min_eq_left h, List.take_of_length_le (by rw [List.length_drop]; exact Nat.le_refl _)]
  · rw [Nat.min_eq_right h, List.drop_length, List.drop_of_length_le h, List.take_nil]
section
variable {P : Program} {w : World} {K : PySem.W.Frag} {mg : Str → Option Value} {base : Heap}
/-! ### cells -/
theorem sc24 : FnScope ["_law_script", "_law_top", "_law_found", "_law_k", "_law_own", "_law_at_so"] ["_law_script", "_law_top"] (defScope (topS 24)) := ⟨rfl, rfl, rfl, by decide +kernel, rfl, by decide +kernel, by decide +kernel⟩
def cell0 (ns : List Int) : List Int := if ns = [] then [0] else ns.take 3
def cellM (ns : List Int) : List Int := cutD ns (some 3) (some 63)
def cellS (ns : List Int) : Nat → List Int
  | 0 => cell0 ns
  | i + 1 => (cellS ns i).set (i % 3) ((cellS ns i).getD (i % 3) 0 + (cellM ns).getD i 0 * ((i : Int) + 2))
theorem cellS_len (ns : List Int) : ∀ i, (cellS ns i).length = (cell0 ns).length
  | 0 => rfl
  | i + 1 => by show ((cellS ns i).set _ _).length = _; rw [List.length_set, cellS_len ns i]
def d_cells (ds : List PyData) (r : Sd) : Prop := ∃ ns : List Int, ds = [.list (ns.map .int), .int 3] ∧ ns.length ≤ 1000 ∧ r = .d (.list ((cellS ns (cellM ns).length).map .int))
theorem ok_cells {f : Addr} {fd : FuncData} (F : Fun K "_law_cells" "_law_cells" (topS 24) f fd) (B : Bl mg) : FnOk P w K mg base CX0 1 f fd ["_law_script", "_law_top"] (spD K (RelD d_cells)) := by
  refine fn_okD F sc24 (fun ds r h => by obtain ⟨_, rfl, _⟩ := h; rfl) fun cdv A outer s H E hr ds r h => ?_
  obtain ⟨ns, rfl, hl, rfl⟩ := h
  show Fin _ _ [.d (.list (ns.map .int)), .d (.int 3), .u, .u, .u, .u] [.u, .u, .u, .u, .u, .u] _
  have e0 : cutD (ns.map PyData.int) none (some 3) = (ns.take 3).map .int := by
    have := cutD_to (ns.map PyData.int) 3
    rw [List.map_take]; exact this
  refine fin_cons (r1_set 2 (ev_orL (ds := cutD (ns.map PyData.int) none (some 3)) (ds2 := (cell0 ns).map .int) (env1 := [.d (.list (ns.map .int)), .d (.int 3), .u, .u, .u, .u]) (ev_listL B.list (ed1 (.frz (ev_slL (ev 0) eo_none (eo_some (ev 1)))))) (fun h => ⟨rfl, ?_⟩) fun h => Ev.cast (ev_one (ev_lst (ed1 (ev_int (i := 0))))) ?_) sc24.nd) ?_
  · rw [e0] at h ⊢
    unfold cell0
    rw [if_neg (fun z => h (by rw [z]; rfl))]
  · rw [e0] at h
    have : ns = [] := by cases ns with | nil => rfl | cons a l => simp at h
    unfold cell0
    rw [if_pos this]
    rfl
  · let envs : Nat → List Sd := fun i => [.d (.list (ns.map .int)), .d (.int 3), .o none (Lf K ((cellS ns i).map .int)), .u, .u, .u]
    have hM : (cellM ns).length ≤ 1000 := Nat.le_trans (cutD_len _ _ _) hl
    refine fin_cons (r1_for (ds := numbered 0 ((cellM ns).map .int)) [3, 4] envs PassesOwn.never (ei_enum B.enumerate (ed1 (Ev.dc (.frz (ev_slL (ev 0) (eo_some (ev 1)) (eo_some (ev_int (i := 63))))) (congrArg PyData.list (cutD_map PyData.int ns (some 3) (some 63)))))) (by exact ⟨rfl, rfl, rfl, trivial⟩) fun i d hd => ?_) ?_
    · obtain ⟨x, hx, rfl⟩ := numbered_get hd
      obtain ⟨m, hm, rfl⟩ : ∃ m, (cellM ns)[i]? = some m ∧ x = .int m := by
        rw [List.getElem?_map] at hx
        cases q : (cellM ns)[i]? with
        | none => rw [q] at hx; cases hx
        | some m => rw [q] at hx; cases hx; exact ⟨m, rfl, rfl⟩
      have him : i < (cellM ns).length := (List.getElem?_eq_some_iff.mp hm).1
      have h3 : 3 < ns.length := by
        refine Decidable.byContradiction fun h => ?_
        have e : cellM ns = [] := by
          unfold cellM cutD
          rw [show HT.sIx ns.length 0 (some 3) = min 3 ns.length from HT.sIx_nat _ 0 3, Nat.min_eq_right (by omega), List.drop_length, List.take_nil]
        rw [e] at him
        exact absurd him (by simp)
      have hc0 : (cell0 ns).length = 3 := by
        unfold cell0
        rw [if_neg (fun z => by rw [z] at h3; simp at h3), List.length_take]; omega
      have hcl : (cellS ns i).length = 3 := by rw [cellS_len, hc0]
      have hlt : i % 3 < 3 := Nat.mod_lt _ (by decide)
      refine ⟨_, tg_tup (tgs_cons (tg_name 3 sc24.nd) (tgs_cons (tg_name 4 sc24.nd) tgs_nil)), ?_⟩
      rw [Nat.zero_add]
      have hc3 : ((i : Int) % 3) = ((i % 3 : Nat) : Int) := by omega
      have hat : (cellS ns i)[i % 3]? = some ((cellS ns i).getD (i % 3) 0) := by rw [List.getD_eq_getElem?_getD, List.getElem?_eq_getElem (by rw [hcl]; exact hlt)]; rfl
      have hgm : m = (cellM ns).getD i 0 := by rw [List.getD_eq_getElem?_getD, hm]; rfl
      refine rn_cons (r1_set 5 (Ev.dc (ev_mod (ev_intI B.int (ed1 (ev (d := .int (i : Int)) 3))) (ev 1) (by decide)) (congrArg PyData.int hc3)) sc24.nd) ?_
      refine rn_cons (r1_seti (ds := (cellS ns i).map .int) (j := ((i % 3 : Nat) : Int)) (k := i % 3) 2 (ev_add (ev_ixO (ds := (cellS ns i).map .int) (j := ((i % 3 : Nat) : Int)) 2 (atI_nat (by rw [List.getElem?_map, hat]; rfl)) (ev 5)) (ev_mul (ev (d := .int m) 4) (ev_add (ev (d := .int (i : Int)) 3) (ev_int (i := 2))) (cmul_r (by omega) (by omega)))) (ev 5) (by
        rw [List.length_map, hcl]
        unfold ixN
        rw [if_pos (by omega), if_pos (by omega)]
        rfl)) ?_
      refine rn_nil.wk ?_
      show Wk [_, _, .o none (Lf K (((cellS ns i).map PyData.int).set (i % 3) (.int ((cellS ns i).getD (i % 3) 0 + m * ((i : Int) + 2))))), _, _, _] [.d (.list (ns.map .int)), .d (.int 3), .o none (Lf K (((cellS ns i).set (i % 3) ((cellS ns i).getD (i % 3) 0 + (cellM ns).getD i 0 * ((i : Int) + 2))).map .int)), .u, .u, .u]
      rw [List.map_set, hgm]
      exact ⟨rfl, rfl, rfl, trivial⟩
    · show Fin _ _ [.d (.list (ns.map .int)), .d (.int 3), .o none (Lf K ((cellS ns (numbered 0 ((cellM ns).map PyData.int)).length).map .int)), .u, .u, .u] _ _
      rw [numbered_len, List.length_map]
      exact fin_frz 2 (fin_ret (ev 2))
/-! ### mixed -/
theorem sc27 : FnScope ["_law_urn", "_law_pool", "_law_rest_so", "_law_found", "_law_turn"] ["_law_urn", "_law_pool"] (defScope (topS 27)) := ⟨rfl, rfl, rfl, by decide +kernel, rfl, by decide +kernel, by decide +kernel⟩
structure Mix where
  found : List Str
  rest : List Str
  urn : Urn
def mixS (u : Urn) (pool : List Str) : Nat → Mix
  | 0 => ⟨[], pool, u⟩
  | i + 1 => ⟨(mixS u pool i).found ++ [(mixS u pool i).rest.getD (takeF (mixS u pool i).urn (mixS u pool i).rest.length).1.toNat Str.empty], (mixS u pool i).rest.eraseIdx (takeF (mixS u pool i).urn (mixS u pool i).rest.length).1.toNat, (takeF (mixS u pool i).urn (mixS u pool i).rest.length).2⟩
def mixF (u : Urn) (pool : List Str) : Mix := mixS u pool pool.length
theorem erase_map {α β : Type} (f : α → β) : ∀ (l : List α) (k : Nat), (l.map f).eraseIdx k = (l.eraseIdx k).map f
  | [], _ => rfl
  | _ :: _, 0 => rfl
  | a :: l, k + 1 => congrArg (f a :: ·) (erase_map f l k)
theorem erase_perm {α : Type} : ∀ {l : List α} {k : Nat} {x : α}, l[k]? = some x → (x :: l.eraseIdx k).Perm l
  | a :: l, 0, x, h => by have : a = x := Option.some.inj h; subst this; exact .refl _
  | a :: l, k + 1, x, h => (List.Perm.swap a x _).trans ((erase_perm (l := l) (k := k) (x := x) (by simpa using h)).cons a)
theorem mix_facts (u : Urn) (pool : List Str) : ∀ i, i ≤ pool.length → (mixS u pool i).rest.length = pool.length - i ∧ ((mixS u pool i).found ++ (mixS u pool i).rest).Perm pool ∧ (mixS u pool i).urn.cnt ≤ u.cnt + i ∧ (mixS u pool i).found.length = i
  | 0, _ => ⟨rfl, .refl _, Nat.le_refl _, rfl⟩
  | i + 1, h => by
    obtain ⟨h1, h2, h3, h4⟩ := mix_facts u pool i (by omega)
    have hne : (mixS u pool i).rest ≠ [] := fun z => by rw [z] at h1; simp at h1; omega
    have hk := (takeF_ix (u := (mixS u pool i).urn) hne).1
    have hget : (mixS u pool i).rest[(takeF (mixS u pool i).urn (mixS u pool i).rest.length).1.toNat]? = some ((mixS u pool i).rest.getD (takeF (mixS u pool i).urn (mixS u pool i).rest.length).1.toNat Str.empty) := by
      rw [List.getD_eq_getElem?_getD, List.getElem?_eq_getElem hk]; rfl
    refine ⟨?_, ?_, ?_, ?_⟩
    · show ((mixS u pool i).rest.eraseIdx _).length = _
      rw [List.length_eraseIdx_of_lt hk, h1]; omega
    · show (((mixS u pool i).found ++ [_]) ++ (mixS u pool i).rest.eraseIdx _).Perm pool
      rw [List.append_assoc]
      exact ((erase_perm hget).append_left _).trans h2
    · show (takeF _ _).2.cnt ≤ _
      have := takeF_cnt (u := (mixS u pool i).urn) (low := (mixS u pool i).rest.length)
      omega
    · show ((mixS u pool i).found ++ [_]).length = _
      rw [List.length_append, h4]; rfl
theorem mixF_perm (u : Urn) (pool : List Str) : (mixF u pool).found.Perm pool := by
  obtain ⟨h1, h2, _, _⟩ := mix_facts u pool pool.length (Nat.le_refl _)
  have : (mixS u pool pool.length).rest = [] := List.length_eq_zero_iff.mp (by rw [h1]; omega)
  rw [this, List.append_nil] at h2
  exact h2
def r_mixed (K : PySem.W.Frag) : Rel := fun as as' r => ∃ (u : Urn) (pool : List Str), as = [.o none (Uf K u), .d (.list (pool.map .str))] ∧ as' = [.o none (Uf K (mixF u pool).urn), .u] ∧ r = .d (.list ((mixF u pool).found.map .str)) ∧ pool.length < 100 ∧ u.cnt < 100000
theorem ok_mixed {f : Addr} {fd : FuncData} (F : Fun K "_law_mixed" "_law_mixed" (topS 27) f fd) (B : Bl mg) (T : Dn P w K mg base "_law_take" ["_law_urn", "_law_low_so"] 1 (r_take K)) : FnOk P w K mg base CX0 2 f fd ["_law_urn", "_law_pool"] (spD K (r_mixed K)) := by
  refine fn_ok F sc27 (fun as as' r h => ?_) fun cdv A outer s H E hr vs as as' r h hl hO => ?_
  · obtain ⟨u, low, rfl, rfl, _⟩ := h
    exact ⟨rfl, back_o1 (n := 1) rfl⟩
  · obtain ⟨u, pool, rfl, rfl, rfl, h1, h2⟩ := h
    obtain ⟨p, hp⟩ := hO 0 _ _ rfl
    match vs, hl, hp with
    | [v0, v1], _, hp =>
      cases hp
      have e1 : addr [.ref p, v1] [.o none (Uf K u), .d (.list (pool.map .str))] = [.o (some p) (Uf K u), .d (.list (pool.map .str))] := by cases v1 <;> rfl
      have e2 : addr [.ref p, v1] [.o none (Uf K (mixF u pool).urn), .u] = [.o (some p) (Uf K (mixF u pool).urn), .u] := by cases v1 <;> rfl
      rw [e1, e2]
      show Fin _ _ [.o (some p) (Uf K u), .d (.list (pool.map .str)), .u, .u, .u] [.o (some p) (Uf K (mixF u pool).urn), .u, .u, .u, .u] _
      refine fin_cons (r1_par 2 3 (el_cons (ev_listL B.list (ed1 (ev 1))) (el1 (ev_lst ed_nil))) sc27.nd) ?_
      let envs : Nat → List Sd := fun i => [.o (some p) (Uf K (mixS u pool i).urn), .d (.list (pool.map .str)), .o none (Lf K ((mixS u pool i).rest.map .str)), .o none (Lf K ((mixS u pool i).found.map .str)), .u]
      refine fin_cons (r1_for (ds := irange 0 pool.length) [4] envs PassesOwn.never (ei_range1 (n := (pool.length : Nat)) B.range (ed1 (Ev.dc (ev_lenL (ds := pool.map .str) B.len (ed1 (ev 1))) (by rw [List.length_map]))) (by omega) (by omega)) (by exact ⟨rfl, rfl, rfl, rfl, trivial⟩) fun i d hd => ?_) ?_
      · obtain ⟨hi, rfl⟩ := irange_get hd
        obtain ⟨f1, f2, f3, f4⟩ := mix_facts u pool i (by omega)
        have hne : (mixS u pool i).rest ≠ [] := fun z => by rw [z] at f1; simp at f1; omega
        obtain ⟨k1, k2⟩ := takeF_ix (u := (mixS u pool i).urn) hne
        have hget : ((mixS u pool i).rest.map PyData.str)[(takeF (mixS u pool i).urn (mixS u pool i).rest.length).1.toNat]? = some (.str ((mixS u pool i).rest.getD (takeF (mixS u pool i).urn (mixS u pool i).rest.length).1.toNat Str.empty)) := by
          rw [List.getElem?_map, List.getD_eq_getElem?_getD, List.getElem?_eq_getElem k1]; rfl
        refine ⟨_, tg_name 4 sc27.nd, ?_⟩
        refine rn_cons (r1_app 3 (ev_pop (k := (takeF (mixS u pool i).urn (mixS u pool i).rest.length).1.toNat) 2 (Ev.dc (ev_fB 0 0 T hr (Nat.le_refl _) (el_b 0 (el1 (Ev.dc (ev_lenO (ds := (mixS u pool i).rest.map .str) 2 B.len) (by rw [List.length_map])))) ⟨(mixS u pool i).urn, (mixS u pool i).rest.length, rfl, rfl, rfl, by omega, by omega, by omega⟩) (congrArg PyData.int k2.symm)) rfl rfl hget (by rw [List.length_map]; omega)) rfl rfl (by rw [List.length_map, f4]; omega)) ?_
        refine rn_nil.wk ?_
        show Wk [.o (some p) (Uf K (takeF (mixS u pool i).urn (mixS u pool i).rest.length).2), _, .o none (Lf K (((mixS u pool i).rest.map PyData.str).eraseIdx _)), .o none (Lf K ((mixS u pool i).found.map PyData.str ++ [_])), _]
          [.o (some p) (Uf K (mixS u pool (i + 1)).urn), .d (.list (pool.map .str)), .o none (Lf K (((mixS u pool i).rest.eraseIdx (takeF (mixS u pool i).urn (mixS u pool i).rest.length).1.toNat).map .str)), .o none (Lf K (((mixS u pool i).found ++ [(mixS u pool i).rest.getD (takeF (mixS u pool i).urn (mixS u pool i).rest.length).1.toNat Str.empty]).map .str)), .u]
        rw [erase_map, List.map_append]
        exact ⟨rfl, rfl, rfl, rfl, trivial⟩
      · show Fin _ _ [.o (some p) (Uf K (mixS u pool (irange 0 pool.length).length).urn), .d (.list (pool.map .str)), .o none (Lf K ((mixS u pool (irange 0 pool.length).length).rest.map .str)), .o none (Lf K ((mixS u pool (irange 0 pool.length).length).found.map .str)), .u] _ _
        rw [irange_len]
        exact fin_frz 3 (fin_ret (ev 3) (by exact ⟨rfl, trivial⟩))
end
end Ol
set_option Elab.async false
set_option linter.all false
set_option maxRecDepth 100000
set_option maxHeartbeats 2000000
/-! OlL3: tags. -/
namespace Ol
open PySem L2
open Evl (Ex Ex.refl Ex.trans Ex.new ex_l ex_t fresh_back sz_of sz_lt)
def abcS : Str := "abcdefghijklmnopqrstuvwxyz"
theorem abc_cps : abcS.cps.toList = (List.range 26).map (97 + ·) := by decide +kernel
theorem abc_len : abcS.length ≤ 100000 := by decide +kernel
def sgn (i : Int) : Str := ⟨#[97 + i.toNat]⟩
theorem abc_at {i : Int} (h0 : 0 ≤ i) (h1 : i < 26) : atI abcS.cps.toList i = some (97 + i.toNat) := by
  rw [abc_cps]
  have e : i = ((i.toNat : Nat) : Int) := by omega
  rw [e]
  refine atI_nat ?_
  rw [List.getElem?_map, List.getElem?_range (by omega)]
  rfl
def empS : Str := ""
def rowL (f b : Int) (n : Nat) : List Str := (List.range n).map fun (k : Nat) => sgn ((f + b * k) % 26)
def byL : List Int := [1, 3, 7, 11, 25]
def stL : List Int := [0, 0, 1, 5, 7]
def tgBy (u : Urn) : Int := ofI (takeF u 26).2 byL
def tgU2 (u : Urn) : Urn := (takeF (takeF u 26).2 (byL.length : Nat)).2
def tgRow (u : Urn) (many : Nat) : List Str := rowL (takeF u 26).1 (tgBy u) (max2 8 many).toNat
def tgT3 (u : Urn) : Int × Urn := takeF (tgU2 u) 4
def tgM (u : Urn) : Int := ofI (tgT3 u).2 stL
def tgU4 (u : Urn) : Urn := (takeF (tgT3 u).2 (stL.length : Nat)).2
def stS (u : Urn) : Nat → List Str × Urn
  | 0 => ([], u)
  | i + 1 => ((stS u i).1 ++ [sgn (takeF (stS u i).2 26).1], (takeF (stS u i).2 26).2)
def tgSt (u : Urn) : List Str × Urn := stS (tgU4 u) (tgM u).toNat
def tgStem (u : Urn) : Str := Txt.join empS (tgSt u).1
def tgT6 (u : Urn) : Int × Urn := takeF (tgSt u).2 (((tgStem u).length : Nat) + 1)
def tg1 (u : Urn) (many : Nat) : List Str := (List.range many).map fun (k : Nat) => Txt.join empS ((tgRow u many).take (k + 1))
def tg2 (u : Urn) (many : Nat) : List Str := (List.range many).map fun (k : Nat) => cutS (tgStem u) none (some (tgT6 u).1) ++ (tgRow u many).getD k empS ++ cutS (tgStem u) (some (tgT6 u).1) none
def tagsF (u : Urn) (many : Nat) : List Str × Urn := if (tgT3 u).1 = 0 then (srtS (tg1 u many), (tgT3 u).2) else (srtS (tg2 u many), (tgT6 u).2)
/-! lengths, differences -/
theorem stS_facts (u : Urn) : ∀ i, (stS u i).1.length = i ∧ (stS u i).2.cnt ≤ u.cnt + i ∧ ∀ x ∈ (stS u i).1, x.length = 1
  | 0 => ⟨rfl, Nat.le_refl _, fun x h => by cases h⟩
  | i + 1 => by
    obtain ⟨h1, h2, h3⟩ := stS_facts u i
    refine ⟨?_, ?_, fun x hx => ?_⟩
    · show ((stS u i).1 ++ [_]).length = _
      rw [List.length_append, h1]; rfl
    · show (takeF (stS u i).2 26).2.cnt ≤ _
      have := takeF_cnt (u := (stS u i).2) (low := 26); omega
    · rcases List.mem_append.mp hx with z | z
      · exact h3 x z
      · rw [List.mem_singleton.mp z]; rfl
theorem len_ones {l : List Str} (h : ∀ x ∈ l, x.length = 1) : (l.map (·.length)).sum = l.length := by
  induction l with
  | nil => rfl
  | cons a l ih =>
    rw [List.map_cons, List.sum_cons, h a (List.mem_cons_self ..), ih fun x hx => h x (List.mem_cons_of_mem _ hx), List.length_cons]; omega
theorem join_len {l : List Str} : (Txt.join empS l).length = (l.map (·.length)).sum := by
  have e := PySem.size_glued empS l
  have e0 : empS.length = 0 := by decide +kernel
  rw [e0, Nat.mul_zero, Nat.add_zero] at e
  exact e
theorem tgM_in (u : Urn) : 0 ≤ tgM u ∧ tgM u ≤ 7 := by
  have := ofI_mem (u := (tgT3 u).2) (ns := stL) (by decide)
  unfold tgM
  have h : ∀ x ∈ stL, 0 ≤ x ∧ x ≤ 7 := by decide
  exact h _ this
theorem tgBy_in (u : Urn) : tgBy u ∈ byL := ofI_mem (by decide)
theorem tgBy_lt (u : Urn) : 0 < tgBy u ∧ tgBy u < 26 := by
  have h : ∀ x ∈ byL, 0 < x ∧ x < 26 := by decide
  exact h _ (tgBy_in u)
theorem row_ones (u : Urn) (many : Nat) : ∀ x ∈ tgRow u many, x.length = 1 := fun x hx => by
  unfold tgRow rowL at hx
  obtain ⟨k, _, rfl⟩ := List.mem_map.mp hx
  rfl
theorem row_len {u : Urn} {many : Nat} (h : many ≤ 8) : (tgRow u many).length = 8 := by
  unfold tgRow rowL max2
  rw [List.length_map, List.length_range]
  split <;> omega
theorem stem_len (u : Urn) : (tgStem u).length ≤ 7 := by
  unfold tgStem tgSt
  obtain ⟨h1, _, h3⟩ := stS_facts (tgU4 u) (tgM u).toNat
  rw [join_len, len_ones h3, h1]
  have := tgM_in u; omega
theorem nodup_range {α : Type} {f : Nat → α} : ∀ {n : Nat}, (∀ i j, i < n → j < n → f i = f j → i = j) → ((List.range n).map f).Nodup
  | 0, _ => List.nodup_nil
  | n + 1, h => by
    rw [List.range_succ, List.map_append, List.nodup_append]
    refine ⟨nodup_range fun i j hi hj => h i j (by omega) (by omega), List.pairwise_singleton _ _, fun a ha b hb e => ?_⟩
    obtain ⟨i, hi, rfl⟩ := List.mem_map.mp ha
    rw [List.mem_singleton.mp hb] at e
    have := h i n (by have := List.mem_range.mp hi; omega) (by omega) e
    have := List.mem_range.mp hi
    omega
theorem tg1_nodup {u : Urn} {many : Nat} (h : many ≤ 8) : (tg1 u many).Nodup := nodup_range fun i j hi hj e => by
  have e1 := congrArg Str.length e
  rw [join_len, join_len, len_ones fun x hx => row_ones u many x (List.mem_of_mem_take hx), len_ones fun x hx => row_ones u many x (List.mem_of_mem_take hx), List.length_take, List.length_take, row_len h] at e1
  omega
theorem row_at {u : Urn} {many k : Nat} (h : many ≤ 8) (hk : k < 8) : (tgRow u many).getD k empS = sgn (((takeF u 26).1 + tgBy u * k) % 26) := by
  have hl := row_len (u := u) h
  unfold tgRow rowL at hl ⊢
  rw [List.length_map, List.length_range] at hl
  rw [List.getD_eq_getElem?_getD, List.getElem?_map, hl, List.getElem?_range hk]
  rfl
theorem sgn_inj {i j : Int} (hi : 0 ≤ i) (hj : 0 ≤ j) (h : sgn i = sgn j) : i = j := by
  unfold sgn at h
  have h1 : (#[97 + i.toNat] : Array Nat) = #[97 + j.toNat] := congrArg Str.cps h
  have h2 : ([97 + i.toNat] : List Nat) = [97 + j.toNat] := congrArg Array.toList h1
  have := (List.cons.inj h2).1
  omega
theorem by_inj {f b : Int} (hb : b ∈ byL) {i j : Nat} (hi : i < 8) (hj : j < 8) (h : (f + b * i) % 26 = (f + b * j) % 26) : i = j := by
  have hb' : b = 1 ∨ b = 3 ∨ b = 7 ∨ b = 11 ∨ b = 25 := by simpa [byL] using hb
  rcases hb' with rfl | rfl | rfl | rfl | rfl <;> omega
theorem tg2_nodup {u : Urn} {many : Nat} (h : many ≤ 8) : (tg2 u many).Nodup := nodup_range fun i j hi hj e => by
  have e1 := congrArg (fun x : Str => x.cps.toList) e
  have ap : ∀ x y : Str, (x ++ y).cps.toList = x.cps.toList ++ y.cps.toList := fun x y => by
    show (x.cps ++ y.cps).toList = _
    rw [Array.toList_append]
  rw [ap, ap, ap, ap] at e1
  have e2 := List.append_cancel_left (List.append_cancel_right e1)
  have e3 : (tgRow u many).getD i empS = (tgRow u many).getD j empS := by
    have : ∀ x y : Str, x.cps.toList = y.cps.toList → x = y := fun x y h => by cases x; cases y; exact congrArg Str.mk (Array.toList_inj.mp h)
    exact this _ _ e2
  rw [row_at h (by omega), row_at h (by omega)] at e3
  exact by_inj (tgBy_in u) (by omega) (by omega) (sgn_inj (Int.emod_nonneg _ (by decide)) (Int.emod_nonneg _ (by decide)) e3)
theorem srtS_nodup {l : List Str} (h : l.Nodup) : (srtS l).Nodup := (srt_perm id l).nodup_iff.mpr h
theorem tagsF_facts {u : Urn} {many : Nat} (h : many ≤ 8) : (tagsF u many).1.Nodup ∧ (tagsF u many).1.length = many ∧ (tagsF u many).2.cnt ≤ u.cnt + 20 := by
  have c1 := takeF_cnt (u := u) (low := 26)
  have c2 := takeF_cnt (u := (takeF u 26).2) (low := (byL.length : Nat))
  have c3 := takeF_cnt (u := tgU2 u) (low := 4)
  have c4 := takeF_cnt (u := (tgT3 u).2) (low := (stL.length : Nat))
  have c5 := (stS_facts (tgU4 u) (tgM u).toNat).2.1
  have c6 := takeF_cnt (u := (tgSt u).2) (low := (((tgStem u).length : Nat) + 1))
  have m := tgM_in u
  have e2 : (tgU2 u).cnt = ((takeF (takeF u 26).2 (byL.length : Nat)).2).cnt := rfl
  have e3 : (tgT3 u).2.cnt = (takeF (tgU2 u) 4).2.cnt := rfl
  have e4 : (tgU4 u).cnt = (takeF (tgT3 u).2 (stL.length : Nat)).2.cnt := rfl
  have e5 : (tgSt u).2.cnt = (stS (tgU4 u) (tgM u).toNat).2.cnt := rfl
  have e6 : (tgT6 u).2.cnt = (takeF (tgSt u).2 (((tgStem u).length : Nat) + 1)).2.cnt := rfl
  unfold tagsF
  split
  · refine ⟨srtS_nodup (tg1_nodup h), ?_, by show (tgT3 u).2.cnt ≤ _; omega⟩
    rw [srt_len]; unfold tg1; rw [List.length_map, List.length_range]
  · refine ⟨srtS_nodup (tg2_nodup h), ?_, by show (tgT6 u).2.cnt ≤ _; omega⟩
    rw [srt_len]; unfold tg2; rw [List.length_map, List.length_range]
section
variable {P : Program} {w : World} {K : PySem.W.Frag} {mg : Str → Option Value} {base : Heap}
abbrev N28 : List Str := ["_law_urn", "_law_many_so", "_law_signs", "_law_first_so", "_law_by_so", "_law_row_so", "_law_stem", "_law_at_so", "_law_k", "_law_turn"]
theorem sc28 : FnScope N28 ["_law_urn", "_law_many_so"] (defScope (topS 28)) := ⟨rfl, rfl, rfl, by decide +kernel, rfl, by decide +kernel, by decide +kernel⟩
def r_tags (K : PySem.W.Frag) : Rel := fun as as' r => ∃ (u : Urn) (many : Nat), as = [.o none (Uf K u), .d (.int (many : Int))] ∧ as' = [.o none (Uf K (tagsF u many).2), .u] ∧ r = .d (.list ((tagsF u many).1.map .str)) ∧ many ≤ 8 ∧ u.cnt < 100000
def rowG (f b : Int) : PyData → Option PyData
  | .int k => some (.str (sgn ((f + b * k) % 26)))
  | _ => none
def g1G (l : List Str) : PyData → Option PyData
  | .int k => some (.str (Txt.join empS (l.take (k.toNat + 1))))
  | _ => none
def g2G (st : Str) (a : Int) (l : List Str) : PyData → Option PyData
  | .int k => some (.str (cutS st none (some a) ++ l.getD k.toNat empS ++ cutS st (some a) none))
  | _ => none
theorem rng_map {α : Type} {g : PyData → Option PyData} {h : Nat → α} {q : α → PyData} {n : Nat} (e : ∀ i : Nat, g (.int (0 + (i : Nat))) = some (q (h i))) : (irange 0 n).filterMap g = ((List.range n).map h).map q := by
  unfold irange
  rw [filterMap_map (fun (i : Nat) => PyData.int (0 + i)) g (fun i => q (h i)) e, List.map_map]
  rfl
theorem cut_len {z : Str} {lo hi : Option Int} : (cutS z lo hi).length ≤ z.length := by
  unfold cutS
  show (List.toArray _).size ≤ _
  rw [List.size_toArray, List.length_take, List.length_drop, Array.length_toList]
  show min _ (z.cps.size - _) ≤ z.cps.size
  omega
theorem ok_tags {f : Addr} {fd : FuncData} (F : Fun K "_law_tags" "_law_tags" (topS 28) f fd) (B : Bl mg) (T : Dn P w K mg base "_law_take" ["_law_urn", "_law_low_so"] 1 (r_take K)) (O : Dn P w K mg base "_law_of" ["_law_urn", "_law_some_so"] 2 (r_of K)) : FnOk P w K mg base CX0 3 f fd ["_law_urn", "_law_many_so"] (spD K (r_tags K)) := by
  refine fn_ok F sc28 (fun as as' r h => ?_) fun cdv A outer s H E hr vs as as' r h hl hO => ?_
  · obtain ⟨u, low, rfl, rfl, _⟩ := h
    exact ⟨rfl, back_o1 (n := 1) rfl⟩
  · obtain ⟨u, many, rfl, rfl, rfl, h1, h2⟩ := h
    obtain ⟨p, hp⟩ := hO 0 _ _ rfl
    match vs, hl, hp with
    | [v0, v1], _, hp =>
      cases hp
      have e1 : addr [.ref p, v1] [.o none (Uf K u), .d (.int (many : Int))] = [.o (some p) (Uf K u), .d (.int (many : Int))] := by cases v1 <;> rfl
      have e2 : addr [.ref p, v1] [.o none (Uf K (tagsF u many).2), .u] = [.o (some p) (Uf K (tagsF u many).2), .u] := by cases v1 <;> rfl
      rw [e1, e2]
      have hu64 := hr.units
      have c1 := takeF_cnt (u := u) (low := 26)
      have c2 := takeF_cnt (u := (takeF u 26).2) (low := (byL.length : Nat))
      have c3 := takeF_cnt (u := tgU2 u) (low := 4)
      have c4 := takeF_cnt (u := (tgT3 u).2) (low := (stL.length : Nat))
      have m := tgM_in u
      have q2 : (tgU2 u).cnt = ((takeF (takeF u 26).2 (byL.length : Nat)).2).cnt := rfl
      have q3 : (tgT3 u).2.cnt = (takeF (tgU2 u) 4).2.cnt := rfl
      have q4 : (tgU4 u).cnt = (takeF (tgT3 u).2 (stL.length : Nat)).2.cnt := rfl
      have hby := tgBy_lt u
      have hmax : max2 8 (many : Int) = 8 := by unfold max2; rw [if_neg (by omega)]
      have hrow := row_len (u := u) h1
      have hstem := stem_len u
      show Fin _ _ [.o (some p) (Uf K u), .d (.int (many : Int)), .u, .u, .u, .u, .u, .u, .u, .u] [.o (some p) (Uf K (tagsF u many).2), .u, .u, .u, .u, .u, .u, .u, .u, .u] _
      refine fin_cons (r1_set 2 (ev_str (i := abcS)) sc28.nd) ?_
      refine fin_cons (r1_asg (d := .tuple [.int (takeF u 26).1, .int (tgBy u)]) (ev_tup (ed2 (ev_fB 0 0 T hr (by decide) (el_b 0 (el1 (ev_int (i := 26)))) ⟨u, 26, rfl, rfl, rfl, by decide, by decide, by omega⟩)
        (ev_fB 0 0 O hr (Nat.le_refl _) (el_b 0 (el1 (.frz (ev_lst (ed_cons ev_int (ed_cons ev_int (ed_cons ev_int (ed2 ev_int ev_int)))))))) ⟨(takeF u 26).2, byL, rfl, rfl, rfl, by decide, by decide, by omega⟩))) (tg_tup (tgs_cons (tg_name 3 sc28.nd) (tgs_cons (tg_name 4 sc28.nd) tgs_nil)))) ?_
      show Fin _ _ [.o (some p) (Uf K (tgU2 u)), .d (.int (many : Int)), .d (.str abcS), .d (.int (takeF u 26).1), .d (.int (tgBy u)), .u, .u, .u, .u, .u] _ _
      refine fin_cons (r1_set 5 (Ev.dc (.frz (ev_lcq [.o (some p) (Uf K (tgU2 u)), .d (.int (many : Int)), .d (.str abcS), .d (.int (takeF u 26).1), .d (.int (tgBy u)), .u, .u, .u, .u, .u] [("_law_k", 8)] (rowG (takeF u 26).1 (tgBy u)) sc28.nd
        (ei_range1 (n := max2 8 (many : Int)) B.range (ed1 (ev_max B.max (ed2 (ev_int (i := 8)) (ev 1)))) (by omega) (by omega)) (blkOk_by (N := N28) (sc := defScope (topS 28)) (by decide +kernel)) (by rw [irange_len]; omega) (fun x hx => ?_) ⟨rfl, trivial⟩)) (show PyData.list _ = .list ((tgRow u many).map .str) from congrArg PyData.list (rng_map fun i => ?_))) sc28.nd) ?_
      · obtain ⟨i, hi⟩ := List.mem_iff_getElem?.mp hx
        obtain ⟨hlt, rfl⟩ := irange_get hi
        exact lct_one 8 rfl (fun _ _ _ _ _ => tg_name 8 sc28.nd) fun _ _ _ _ _ => ev_ixs abc_len (abc_at (Int.emod_nonneg _ (by decide)) (Int.emod_lt_of_pos _ (by decide))) (ev 2) (ev_mod (ev_intI B.int (ed1 (ev_add (ev 3) (ev_mul (ev 4) (ev 8) (cmul_l (by omega) (by omega)))))) (ev_int (i := 26)) (by decide))
      · show some _ = some _
        rw [show (0 : Int) + (i : Nat) = (i : Nat) by omega]
      · show Fin _ _ [.o (some p) (Uf K (tgU2 u)), .d (.int (many : Int)), .d (.str abcS), .d (.int (takeF u 26).1), .d (.int (tgBy u)), .d (.list ((tgRow u many).map .str)), .u, .u, .u, .u] _ _
        have hlt9 : decide ((many : Int) < 9) = true := decide_eq_true (by omega)
        by_cases c : (tgT3 u).1 = 0
        · have hF : tagsF u many = (srtS (tg1 u many), (tgT3 u).2) := by unfold tagsF; rw [if_pos c]
          rw [hF]
          refine fin_ifB (Ew.t (ew_and (et_lt (ev 1) (ev_int (i := 9))) (fun _ => ew_one (et_eq (ev_fB 0 0 T hr (by decide) (el_b 0 (el1 (ev_int (i := 4)))) ⟨tgU2 u, 4, rfl, rfl, rfl, by decide, by decide, by omega⟩) (ev_int (i := 0)) hu64 rfl rfl) fun t h => pw_and1 h) fun z => by rw [hlt9] at z; cases z)) (by rw [hlt9]; show ((tgT3 u).1 == 0) = true; rw [c]; rfl) ?_
          refine finr_ret (.frz (ev_srtS (ns := tg1 u many) (by unfold tg1; rw [List.length_map, List.length_range]; omega) B.sorted (ed1 (Ev.dc (.frz (ev_lcq _ [("_law_k", 8)] (g1G (tgRow u many)) sc28.nd (ei_range1 (n := (many : Int)) B.range (ed1 (ev 1)) (by omega) (by omega)) (blkOk_by (N := N28) (sc := defScope (topS 28)) (by decide +kernel)) (by rw [irange_len]; omega) (fun x hx => ?_) ⟨rfl, trivial⟩)) (congrArg PyData.list (rng_map fun i => ?_)))))) (by exact ⟨rfl, trivial⟩)
          · obtain ⟨i, hi⟩ := List.mem_iff_getElem?.mp hx
            obtain ⟨hlt, rfl⟩ := irange_get hi
            refine lct_one 8 rfl (fun _ _ _ _ _ => tg_name 8 sc28.nd) fun _ _ _ _ _ => ev_join (z := empS) (ns := (tgRow u many).take ((0 + (i : Nat) : Int).toNat + 1)) ?_ ev_str (Ev.dc (.frz (ev_slL (ev 5) eo_none (eo_some (ev_add (ev 8) (ev_int (i := 1)))))) ?_)
            · have e0 : empS.length = 0 := by decide +kernel
              rw [e0, Nat.mul_zero, Nat.add_zero, len_ones fun x hx => row_ones u many x (List.mem_of_mem_take hx), List.length_take]
              omega
            · have : (0 + (i : Nat) + 1 : Int) = (((0 + (i : Nat) : Int).toNat + 1 : Nat) : Int) := by omega
              rw [this, cutD_to, List.map_take]
          · show some _ = some _
            rw [show ((0 : Int) + (i : Nat)).toNat = i by omega]
        · have hF : tagsF u many = (srtS (tg2 u many), (tgT6 u).2) := by unfold tagsF; rw [if_neg c]
          rw [hF]
          refine fin_ifN (Ew.t (ew_and (et_lt (ev 1) (ev_int (i := 9))) (fun _ => ew_one (et_eq (ev_fB 0 0 T hr (by decide) (el_b 0 (el1 (ev_int (i := 4)))) ⟨tgU2 u, 4, rfl, rfl, rfl, by decide, by decide, by omega⟩) (ev_int (i := 0)) hu64 rfl rfl) fun t h => pw_and1 h) fun z => by rw [hlt9] at z; cases z)) (by rw [hlt9]; show ((tgT3 u).1 == 0) = false; exact beq_eq_false_iff_ne.mpr c) ?_
          let envs : Nat → List Sd := fun i => [.o (some p) (Uf K (stS (tgU4 u) i).2), .d (.int (many : Int)), .d (.str abcS), .d (.int (takeF u 26).1), .d (.int (tgBy u)), .d (.list ((tgRow u many).map .str)), .u, .u, .u, .u]
          have hst := stS_facts (tgU4 u)
          have hj : (((stS (tgU4 u) (irange 0 (tgM u).toNat).length).1).map (·.length)).sum + ((stS (tgU4 u) (irange 0 (tgM u).toNat).length).1).length * empS.length ≤ 16777216 := by
            have e0 : empS.length = 0 := by decide +kernel
            rw [e0, Nat.mul_zero, Nat.add_zero, irange_len, len_ones (hst _).2.2, (hst _).1]
            omega
          refine fin_cons (r1_set 6 (ev_join (z := empS) hj ev_str (.frz (ev_lc (tg := _) [("_law_turn", 9)] envs (fun i => (stS (tgU4 u) i).1.map .str) sc28.nd (ei_range1 (n := tgM u) B.range (ed1 (ev_fB 0 0 O hr (Nat.le_refl _) (el_b 0 (el1 (.frz (ev_lst (ed_cons ev_int (ed_cons ev_int (ed_cons ev_int (ed2 ev_int ev_int)))))))) ⟨(tgT3 u).2, stL, rfl, rfl, rfl, by decide, by decide, by omega⟩)) (by omega) (by omega))
            (blkOk_by (N := N28) (sc := defScope (topS 28)) (by decide +kernel)) (by exact ⟨rfl, rfl, rfl, rfl, rfl, rfl, trivial⟩) (fun i => AllU.get (vs := [9]) ⟨rfl, trivial⟩) rfl (by rw [irange_len]; omega) fun i d hd => ?_))) sc28.nd) ?_
          · obtain ⟨hi, rfl⟩ := irange_get hd
            have hc := (hst i).2.1
            refine ⟨some (.str (sgn (takeF (stS (tgU4 u) i).2 26).1)), ⟨_, fun _ _ _ _ _ => tg_name 9 sc28.nd, _, _, fun _ _ _ _ _ => ep_nil, fun _ _ _ _ _ => ev_ixs abc_len (abc_at (takeF_in (by decide)).1 (takeF_in (by decide)).2) (ev 2) (ev_fB 0 0 T hr (by decide) (el_b 0 (el1 (ev_int (i := 26)))) ⟨(stS (tgU4 u) i).2, 26, rfl, rfl, rfl, by decide, by decide, by omega⟩), by exact ⟨rfl, rfl, rfl, rfl, rfl, rfl, trivial⟩⟩, ?_⟩
            show ((stS (tgU4 u) i).1 ++ [_]).map PyData.str = _
            rw [List.map_append]; rfl
          · have cS : (tgSt u).2.cnt ≤ (tgU4 u).cnt + (tgM u).toNat := (hst (tgM u).toNat).2.1
            have er : (irange 0 (tgM u).toNat).length = (tgM u).toNat := irange_len
            show Fin _ _ [.o (some p) (Uf K (stS (tgU4 u) (irange 0 (tgM u).toNat).length).2), .d (.int (many : Int)), .d (.str abcS), .d (.int (takeF u 26).1), .d (.int (tgBy u)), .d (.list ((tgRow u many).map .str)), .d (.str (Txt.join empS (stS (tgU4 u) (irange 0 (tgM u).toNat).length).1)), .u, .u, .u] _ _
            rw [er]
            show Fin _ _ [.o (some p) (Uf K (tgSt u).2), .d (.int (many : Int)), .d (.str abcS), .d (.int (takeF u 26).1), .d (.int (tgBy u)), .d (.list ((tgRow u many).map .str)), .d (.str (tgStem u)), .u, .u, .u] _ _
            refine fin_cons (r1_set 7 (ev_fB 0 0 T hr (by decide) (el_b 0 (el1 (ev_add (ev_lenS (z := tgStem u) (by omega) B.len (ed1 (ev 6))) (ev_int (i := 1))))) ⟨(tgSt u).2, ((tgStem u).length : Nat) + 1, rfl, rfl, rfl, by omega, by omega, by omega⟩) sc28.nd) ?_
            show Fin _ _ [.o (some p) (Uf K (tgT6 u).2), .d (.int (many : Int)), .d (.str abcS), .d (.int (takeF u 26).1), .d (.int (tgBy u)), .d (.list ((tgRow u many).map .str)), .d (.str (tgStem u)), .d (.int (tgT6 u).1), .u, .u] _ _
            refine fin_ret (.frz (ev_srtS (ns := tg2 u many) (by unfold tg2; rw [List.length_map, List.length_range]; omega) B.sorted (ed1 (Ev.dc (.frz (ev_lcq _ [("_law_k", 8)] (g2G (tgStem u) (tgT6 u).1 (tgRow u many)) sc28.nd (ei_range1 (n := (many : Int)) B.range (ed1 (ev 1)) (by omega) (by omega)) (blkOk_by (N := N28) (sc := defScope (topS 28)) (by decide +kernel)) (by rw [irange_len]; omega) (fun x hx => ?_) ⟨rfl, trivial⟩)) (congrArg PyData.list (rng_map fun i => ?_)))))) (by exact ⟨rfl, trivial⟩)
            · obtain ⟨i, hi⟩ := List.mem_iff_getElem?.mp hx
              obtain ⟨hlt, rfl⟩ := irange_get hi
              have l1 := cut_len (z := tgStem u) (lo := none) (hi := some (tgT6 u).1)
              have l2 := cut_len (z := tgStem u) (lo := some (tgT6 u).1) (hi := none)
              have hi8 : i < 8 := by omega
              have e0 : ((0 : Int) + (i : Nat)).toNat = i := by omega
              have hone : ((tgRow u many).getD ((0 : Int) + (i : Nat)).toNat empS).length = 1 := by rw [e0, row_at h1 hi8]; rfl
              have hcat : ∀ x y : Str, (x ++ y).length = x.length + y.length := fun x y => by show (x.cps ++ y.cps).size = _; rw [Array.size_append]; rfl
              refine lct_one 8 rfl (fun _ _ _ _ _ => tg_name 8 sc28.nd) fun _ _ _ _ _ => ev_cats (by rw [hcat]; omega) (ev_cats (by omega) (ev_slS (z := tgStem u) (by omega) (ev 6) eo_none (eo_some (ev 7))) (ev_ixl (i := 0 + (i : Nat)) (ds := (tgRow u many).map .str) ?_ (ev 5) (ev 8))) (ev_slS (z := tgStem u) (by omega) (ev 6) (eo_some (ev 7)) eo_none)
              rw [e0, show (0 : Int) + (i : Nat) = (i : Nat) by omega]
              refine atI_nat ?_
              rw [List.getElem?_map, List.getD_eq_getElem?_getD, List.getElem?_eq_getElem (by rw [hrow]; exact hi8)]
              rfl
            · show some _ = some _
              rw [show ((0 : Int) + (i : Nat)).toNat = i by omega]
end
end Ol
set_option Elab.async false
set_option linter.all false
set_option maxRecDepth 100000
set_option maxHeartbeats 2000000
/-! OlM2: any order, the same end; what is laid and what is left. -/
namespace Ol
open PySem L2
section
variable {b : Bk} {ps : List (Str × Int)}
structure Agree (b : Bk) (ps : List (Str × Int)) : Prop where
  comp : ∀ i j, i < ps.length → j < ps.length → Comp (rowOf b (pay ps i).1) (rowOf b (pay ps j).1)
  nn : ∀ i, i < ps.length → 0 ≤ (pay ps i).2
theorem stp_nn (A : Agree b ps) {d : Str → Int} {i : Nat} (h : NN d) (hi : i < ps.length) : NN (stp b ps d i).2.1 := (lay_nn _ d _ h (A.nn i hi)).1
theorem dAt_nn (A : Agree b ps) : ∀ (o : List Nat) (d : Str → Int), NN d → (∀ i ∈ o, i < ps.length) → NN (dAt b ps o d)
  | [], d, h, _ => h
  | i :: o, d, h, hi => dAt_nn A o _ (stp_nn A h (hi i (List.mem_cons_self ..))) fun j hj => hi j (List.mem_cons_of_mem _ hj)
theorem dAt_perm (A : Agree b ps) {o1 o2 : List Nat} (p : o1.Perm o2) : ∀ (d : Str → Int), NN d → (∀ i ∈ o1, i < ps.length) → dAt b ps o1 d = dAt b ps o2 d := by
  induction p with
  | nil => intro d _ _; rfl
  | cons i p ih => intro d h hi; exact ih _ (stp_nn A h (hi i (List.mem_cons_self ..))) fun j hj => hi j (List.mem_cons_of_mem _ hj)
  | swap i j l =>
    intro d h hi
    have h1 := hi i (List.mem_cons_of_mem _ (List.mem_cons_self ..))
    have h2 := hi j (List.mem_cons_self ..)
    show dAt b ps l (stp b ps (stp b ps d j).2.1 i).2.1 = dAt b ps l (stp b ps (stp b ps d i).2.1 j).2.1
    exact congrArg (dAt b ps l) (lay_comm (A.comp i j h1 h2) h (A.nn i h1) (A.nn j h2))
  | trans p q ih1 ih2 =>
    intro d h hi
    rw [ih1 d h hi, ih2 d h fun i hm => hi i (p.mem_iff.mpr hm)]
theorem insI_perm {a : Int} : ∀ {l : List Int}, a ∉ l → (insI a l).Perm (a :: l)
  | [], _ => .refl _
  | c :: r, h => by
    unfold insI
    split
    · exact .refl _
    · split
      · rename_i e; subst e; exact absurd (List.mem_cons_self ..) h
      · exact ((insI_perm fun z => h (List.mem_cons_of_mem _ z)).cons c).trans (.swap a c r)
theorem setI_perm : ∀ {l : List Int}, l.Nodup → (setI l).Perm l
  | [], _ => .refl _
  | a :: r, h => by
    rw [List.nodup_cons] at h
    exact (insI_perm fun z => h.1 (mem_setI.mp z)).trans ((setI_perm h.2).cons a)
theorem mk_ends {bs : List Str} {d : Str → Int} (S : Sit b bs ps) (few : ps.length < 5) (A : Agree b ps) (h : NN d) : EndsOk b bs ps fun S => dAt b ps (S.map Int.toNat) d where
  sit := S
  few := few
  step T pl nT rT hp hn := by
    have e := dAt_snoc (b := b) (ps := ps) (T.map Int.toNat) d pl
    rw [← e]
    have nd : (T ++ [(pl : Int)]).Nodup := by
      rw [List.nodup_append]
      exact ⟨nT, List.pairwise_singleton _ _, fun a ha c hc z => by rw [List.mem_singleton.mp hc] at z; subst z; exact hn ha⟩
    have pm := ((setI_perm nd).map Int.toNat).symm
    rw [List.map_append] at pm
    refine dAt_perm A pm d h fun i hi => ?_
    rcases List.mem_append.mp hi with z | z
    · obtain ⟨x, hx, rfl⟩ := List.mem_map.mp z
      have := rT x hx
      omega
    · have : i = pl := by simpa using z
      omega
theorem d_ends_mk {bs : List Str} {d : Str → Int} (S : Sit b bs ps) (few : ps.length < 5) (A : Agree b ps) (h : NN d) : d_ends [b.d, dueT bs d, paysD ps] (.d (.list [dueT bs (dAt b ps (List.range ps.length) d)])) := by
  refine ⟨b, bs, ps, _, rfl, mk_ends S few A h, ?_⟩
  have e : (allI ps.length).map Int.toNat = List.range ps.length := by
    unfold allI
    rw [List.map_map]
    exact (List.map_congr_left fun _ _ => rfl).trans (List.map_id _)
  rw [e]
/-! ### totals -/
def tot (bs : List Str) (d : Str → Int) : Int := (bs.map d).sum
theorem tot_put {bs : List Str} {d : Str → Int} {x : Str} {v : Int} (nd : bs.Nodup) (h : x ∈ bs) : tot bs (put d x v) = tot bs d - d x + v := by
  unfold tot
  induction bs with
  | nil => cases h
  | cons c bs ih =>
    rw [List.nodup_cons] at nd
    rw [List.map_cons, List.map_cons, List.sum_cons, List.sum_cons]
    rcases List.mem_cons.mp h with z | z
    · subst z
      have e : bs.map (put d x v) = bs.map d := List.map_congr_left fun y hy => put_ne (fun z => nd.1 (z ▸ hy))
      rw [e, put_same]; omega
    · have e : put d x v c = d c := put_ne (fun w => nd.1 (w ▸ z))
      rw [ih nd.2 z, e]; omega
theorem lay_tot {bs : List Str} (nd : bs.Nodup) : ∀ (row : List Str) (d : Str → Int) (r : Int), (∀ x ∈ row, x ∈ bs) → tot bs (layD row d r) = tot bs d - ((layF row d r).map (·.2)).sum ∧ ((layF row d r).map (·.2)).sum + layR row d r = r
  | [], d, r, _ => ⟨by show tot bs d = tot bs d - 0; omega, by show (0 : Int) + r = r; omega⟩
  | c :: row, d, r, h => by
    by_cases k : 0 < min2 r (d c)
    · obtain ⟨h1, h2⟩ := lay_tot nd row (put d c (d c - min2 r (d c))) (r - min2 r (d c)) fun x hx => h x (List.mem_cons_of_mem _ hx)
      simp only [layD, layF, layR] at h1 h2 ⊢
      rw [lay_yes k]
      rw [tot_put nd (h c (List.mem_cons_self ..))] at h1
      dsimp only
      rw [List.map_cons, List.sum_cons]
      dsimp only
      constructor <;> omega
    · unfold layD layF layR
      rw [lay_no k]
      exact lay_tot nd row d r fun x hx => h x (List.mem_cons_of_mem _ hx)
theorem gb_sum {bs : List Str} (nd : bs.Nodup) (hs : ∀ q ∈ b.rows, ∀ x ∈ q.2, x ∈ bs) (hp : ∀ i, i < ps.length → (pay ps i).1 ∈ b.rows.map (·.1)) : ∀ (o : List Nat) (d : Str → Int), (∀ i ∈ o, i < ps.length) →
    ((gbL b ps o d).map (·.2)).sum = (o.map fun i => (pay ps i).2).sum - (tot bs d - tot bs (dAt b ps o d))
  | [], d, _ => by show (0 : Int) = 0 - (tot bs d - tot bs d); omega
  | i :: o, d, h => by
    have hi := h i (List.mem_cons_self ..)
    have ih := gb_sum nd hs hp o (stp b ps d i).2.1 fun j hj => h j (List.mem_cons_of_mem _ hj)
    have l := (lay_tot nd (rowOf b (pay ps i).1) d (pay ps i).2 (hs _ (mem_rowOf (hp i hi)))).1
    show ((pay ps i).2 - ((stp b ps d i).1.map (·.2)).sum) + ((gbL b ps o (stp b ps d i).2.1).map (·.2)).sum = ((pay ps i).2 + (o.map fun i => (pay ps i).2).sum) - (tot bs d - tot bs (dAt b ps o (stp b ps d i).2.1))
    have l' : tot bs (stp b ps d i).2.1 = tot bs d - ((stp b ps d i).1.map (·.2)).sum := l
    omega
theorem sum_perm {l m : List Int} (p : l.Perm m) : l.sum = m.sum := by
  induction p with
  | nil => rfl
  | cons a p ih => rw [List.sum_cons, List.sum_cons, ih]
  | swap a c l => rw [List.sum_cons, List.sum_cons, List.sum_cons, List.sum_cons]; omega
  | trans _ _ h1 h2 => rw [h1, h2]
theorem gbv_map {l : List (Nat × Int)} (nd : (l.map (·.1)).Nodup) : (l.map (·.1)).map (gbv l) = l.map (·.2) := by
  rw [List.map_map]
  refine List.map_congr_left fun q hq => ?_
  show gbv l q.1 = q.2
  unfold gbv
  induction l with
  | nil => cases hq
  | cons c l ih =>
    rw [List.map_cons, List.nodup_cons] at nd
    rw [List.find?_cons]
    rcases List.mem_cons.mp hq with z | z
    · subst z; simp
    · have : ¬ c.1 = q.1 := fun w => nd.1 (by rw [w]; exact List.mem_map.mpr ⟨q, z, rfl⟩)
      rw [decide_eq_false this]
      exact ih nd.2 z
theorem ord_perm {o : List Nat} (O : Ord ps o) : o.Perm (List.range ps.length) := by
  rw [List.perm_iff_count]
  intro a
  rw [O.nd.count, List.nodup_range.count]
  by_cases h : a < ps.length
  · rw [if_pos (O.all a h), if_pos (List.mem_range.mpr h)]
  · rw [if_neg (fun z => h (O.lt a z)), if_neg (fun z => h (List.mem_range.mp z))]
theorem gvs_sum {bs : List Str} {d : Str → Int} {o : List Nat} (S : Sit b bs ps) (O : Ord ps o) : (gvs b ps d o).sum = (ps.map (·.2)).sum - (tot bs d - tot bs (dAt b ps o d)) := by
  have e1 : (gvs b ps d o).sum = ((gbL b ps o d).map (·.2)).sum := by
    rw [← gbv_map (by rw [gbL_keys]; exact O.nd), gbL_keys]
    exact sum_perm ((ord_perm O).symm.map _)
  have e2 : (o.map fun i => (pay ps i).2).sum = (ps.map (·.2)).sum := by
    rw [sum_perm ((ord_perm O).map fun i => (pay ps i).2)]
    refine congrArg List.sum (List.ext_getElem? fun i => ?_)
    rw [List.getElem?_map, List.getElem?_map]
    rcases Nat.lt_or_ge i ps.length with h | h
    · rw [List.getElem?_range h, pay_get h]; rfl
    · rw [List.getElem?_eq_none (by rw [List.length_range]; exact h), List.getElem?_eq_none h]; rfl
  rw [e1, gb_sum S.nd S.sub (fun i hi => S.pay _ (pay_mem hi)) o d O.lt, e2]
end
end Ol
set_option Elab.async false
set_option linter.all false
set_option maxRecDepth 100000
set_option maxHeartbeats 2000000
/-! OlSrtT: sorted(..) of a list of tuples that stand, by their first texts. -/
namespace Ol
open PySem L2
open Evl (Ex Ex.refl Ex.trans Ex.new ex_l ex_t fresh_back sz_of sz_lt)
theorem srt_congr {α : Type} {k1 k2 : α → Str} : ∀ {l : List α}, (∀ a ∈ l, k1 a = k2 a) → srt k1 l = srt k2 l := by
  have i : ∀ {a : α} {l : List α}, k1 a = k2 a → (∀ x ∈ l, k1 x = k2 x) → ins k1 a l = ins k2 a l := by
    intro a l ha h
    induction l with
    | nil => rfl
    | cons c l ih =>
      show (if OlS.ltS (k1 c) (k1 a) = true then c :: ins k1 a l else a :: c :: l) = (if OlS.ltS (k2 c) (k2 a) = true then c :: ins k2 a l else a :: c :: l)
      rw [ha, h c (List.mem_cons_self ..), ih fun x hx => h x (List.mem_cons_of_mem _ hx)]
  intro l
  induction l with
  | nil => intro _; rfl
  | cons a l ih =>
    intro h
    show ins k1 a (srt k1 l) = ins k2 a (srt k2 l)
    rw [ih fun x hx => h x (List.mem_cons_of_mem _ hx)]
    exact i (h a (List.mem_cons_self ..)) fun x hx => h x (List.mem_cons_of_mem _ ((srt_perm k2 l).mem_iff.mp hx))
section
variable {X : Cx}
def rSrtPT (K : PySem.W.Frag) : List V → Hp → VK → Prop := fun vs H Q => ∃ (a : Addr) (ps : List (Addr × Str)), vs = [.ref a] ∧ SqL K H a (ps.map fun p => .ref p.1) ∧ (∀ p ∈ ps, ∃ rest, SqT K H p.1 (.str p.2 :: rest)) ∧ (ps.map (·.2)).Nodup ∧
  ∀ p, H p = none → Q (.ref p) (upd H p (.lst ((srt (·.2) ps).map fun p => .ref p.1)))
theorem cr_srtPT (hc : X.calm = true) : CallR X (.builtin "sorted") (rSrtPT X.K) := by
  intro pins s σ H vs us Q I r h
  obtain ⟨a, ps, rfl, hs, hp, nd, q⟩ := h
  obtain ⟨its, rv, hl, hz⟩ := I.list hs
  rw [Vals.ref1 r]
  have eits : its = ps.map fun p => Value.ref p.1 := by
    have e0 : (ps.map (·.1)).map V.ref = ps.map fun p => V.ref p.1 := by rw [List.map_map]; rfl
    rw [← e0] at rv
    have := refs_at rv
    rw [this, List.map_map]; rfl
  subst eits
  have ndA : ∀ p ∈ ps, ∀ p' ∈ ps, p.1 = p'.1 → p = p' := fun p h p' h' e => by
    obtain ⟨rest, x1⟩ := hp p h
    obtain ⟨rest', x2⟩ := hp p' h'
    rw [← e] at x2
    have e2 := (List.cons.inj (I.tuple_inj x1 x2)).1
    exact nodup_inj (·.2) nd p h p' h' (V.str.inj e2)
  let tx : Value → Str := fun v => match v with
    | .ref b => ((ps.find? fun p => decide (p.1 = b)).map (·.2)).getD Str.empty
    | _ => Str.empty
  have txat : ∀ p ∈ ps, tx (.ref p.1) = p.2 := fun p h => by
    show ((ps.find? fun q => decide (q.1 = p.1)).map (·.2)).getD Str.empty = p.2
    cases e : ps.find? fun q => decide (q.1 = p.1) with
    | none => have := List.find?_eq_none.mp e p h; simp at this
    | some q =>
      have h0 := List.find?_some e
      have h1 : q.1 = p.1 := of_decide_eq_true h0
      rw [ndA q (List.mem_of_find?_eq_some e) p h h1]; rfl
  have at_ : ∀ v ∈ ps.map (fun p => Value.ref p.1), ∃ p ∈ ps, v = .ref p.1 := fun v hv => by
    obtain ⟨p, h1, rfl⟩ := List.mem_map.mp hv
    exact ⟨p, h1, rfl⟩
  have inj : ∀ v ∈ ps.map (fun p => Value.ref p.1), ∀ u ∈ ps.map (fun p => Value.ref p.1), tx v = tx u → v = u := fun v hv u hu e => by
    obtain ⟨p, h1, rfl⟩ := at_ v hv
    obtain ⟨p', h2, rfl⟩ := at_ u hu
    rw [txat p h1, txat p' h2] at e
    rw [nodup_inj (·.2) nd p h1 p' h2 e]
  refine SrtO.sorted_ord (ltv := OlS.ltT tx) (OlS.swo_tx tx) hl.isList (by rw [← rv.length]; exact hz) (fun h2 h1 b hb keep => OlS.tx_sortable (by omega) (fun v hv => ?_) inj fun o ho z => by rw [hb] at ho; cases ho; exact absurd (show Value.type "list" = Value.type "tuple" from z) (by decide)) fun out o1 o2 => ?_
  · obtain ⟨p, h3, rfl⟩ := at_ v hv
    rw [txat p h3]
    obtain ⟨rest, hq⟩ := hp p h3
    obtain ⟨us, ru, ⟨o, ho, hoc, n, hd⟩, _⟩ := I.tuple hq
    cases ru with
    | cons r1 rr =>
      obtain ⟨t, rfl⟩ := r1
      exact ⟨p.1, o, t, _, n, rfl, (keep _ _ ho).2, hoc, hd⟩
  · have e1 : out = srt tx (ps.map fun p => Value.ref p.1) := srt_unique tx o2.perm o1 inj
    have e2 : out = (srt (·.2) ps).map fun p => Value.ref p.1 := by rw [e1, srt_map, srt_congr txat]
    have lenO : ((srt (·.2) ps).map fun p => V.ref p.1).length ≤ sizeLine := by rw [List.length_map, srt_len]; rw [List.length_map] at hz; exact hz
    have valsO : Vals ((srt (·.2) ps).map fun p => V.ref p.1) out := by
      rw [e2]
      clear e1 e2 lenO o1 o2
      induction srt (·.2) ps with
      | nil => exact .nil
      | cons x l ih => exact .cons rfl ih
    obtain ⟨ep, he'⟩ := PyProof.Rows.sortedAll_at s.heap (ps.map fun p => Value.ref p.1) out.toArray
    exact ⟨.ref _, upd H (s.heap.objs.size + 1) (.lst _), I.laid (t' := s.toks) (fun _ _ => PyProof.Rows.sortedAll_old) (Nat.le_succ _) ⟨lenO, out, ep, valsO, he'⟩, rfl, q _ (I.hok.fresh (Nat.le_succ _))⟩
end
section
variable {X : Cx} {K : PySem.W.Frag} {env env' : List Sd} {e : Expr} {p pos : Pos}
theorem dpa_tups {H : Hp} : ∀ {xs : List V} {ks : List (Str × PyData)}, DpAll K H xs (ks.map pairD) → ∃ ps : List (Addr × Str), xs = ps.map (fun p => .ref p.1) ∧ (∀ q ∈ ps, ∃ rest, SqT K H q.1 (.str q.2 :: rest)) ∧ Paired (fun q k => q.2 = k.1 ∧ Dp K H (.ref q.1) (pairD k)) ps ks
  | [], [], _ => ⟨[], rfl, (fun _ h => by cases h), .nil⟩
  | x :: xs, k :: ks, .cons h t => by
    obtain ⟨ps, e, h1, h2⟩ := dpa_tups (ks := ks) t
    obtain ⟨a, ys, rfl, hs, hd⟩ := dp_tup h
    obtain ⟨v, w, rfl, p1, p2⟩ := dpa2 hd
    rw [dp_str p1] at hs
    refine ⟨(a, k.1) :: ps, by rw [e]; rfl, fun q hq => ?_, .cons ⟨rfl, h⟩ h2⟩
    rcases List.mem_cons.mp hq with z | z
    · subst z; exact ⟨_, hs⟩
    · exact h1 q z
theorem tups_keys {H : Hp} : ∀ {ps : List (Addr × Str)} {ks : List (Str × PyData)}, Paired (fun q k => q.2 = k.1 ∧ Dp K H (.ref q.1) (pairD k)) ps ks → ps.map (·.2) = ks.map (·.1)
  | _, _, .nil => rfl
  | _, _, .cons h t => by rw [List.map_cons, List.map_cons, h.1, tups_keys t]
theorem ev_srtPT {ks : List (Str × PyData)} (hm : X.mg "sorted" = none) (nd : (ks.map (·.1)).Nodup) (h : Ed X [e] env env' [.list (ks.map pairD)]) (hg : Gl X "sorted" := by rfl) (hc : X.calm = true := by rfl) (he : starEach [e] X.env = (false, eval e X.env) :: starEach [] X.env := by rfl) :
    Ev X (.Call (.Name "sorted" p) [e] [] pos) env env' (.o none (Lf X.K ((srt (·.1) ks).map pairD))) :=
  ev_cb (cr_srtPT hc) (fun H H1 vs Q ex h k => by
    obtain ⟨v, rfl, hv⟩ := dpa1 h
    obtain ⟨a, xs, rfl, hs, hd⟩ := dp_lst hv
    obtain ⟨ps, rfl, h1, h2⟩ := dpa_tups hd
    have ek := tups_keys h2
    refine ⟨a, ps, rfl, ex_l ex hs, fun q hq => by obtain ⟨rest, z⟩ := h1 q hq; exact ⟨rest, ex_t ex z⟩, by rw [ek]; exact nd, ?_⟩
    refine k.newL ex ?_
    have h3 := srt_rel (k1 := fun q : Addr × Str => q.2) (k2 := fun q : Str × PyData => q.1) (fun _ _ z => z.1) h2
    revert h3
    generalize srt (fun q : Addr × Str => q.2) ps = l
    generalize srt (fun q : Str × PyData => q.1) ks = m
    intro h3
    induction h3 with
    | nil => exact .nil
    | cons z t ih => exact .cons z.2 ih) hm h hg boot_sorted' (by decide) (by decide) he rfl
end
end Ol
set_option Elab.async false
set_option linter.all false
set_option maxRecDepth 100000
set_option maxHeartbeats 2000000
/-! OlM3: names and their sums; one list for all. -/
namespace Ol
open PySem L2
theorem layD_off {α : Type} [DecidableEq α] {x : α} : ∀ {row : List α} {d : α → Int} {r : Int}, x ∉ row → layD row d r x = d x
  | [], _, _, _ => rfl
  | c :: row, d, r, h => by
    rw [List.mem_cons, not_or] at h
    simp only [layD]
    by_cases k : 0 < min2 r (d c)
    · rw [lay_yes k]
      have := layD_off (row := row) (d := put d c (d c - min2 r (d c))) (r := r - min2 r (d c)) h.2
      rw [put_ne h.1] at this
      exact this
    · rw [lay_no k]
      exact layD_off h.2
theorem lay_app {α : Type} [DecidableEq α] : ∀ (xs ys : List α) (d : α → Int) (r : Int), (lay (xs ++ ys) d r).2 = (lay ys (layD xs d r) (layR xs d r)).2
  | [], ys, d, r => rfl
  | c :: xs, ys, d, r => by
    simp only [layD, layR]
    by_cases k : 0 < min2 r (d c)
    · rw [List.cons_append, lay_yes k, lay_yes k]
      exact lay_app xs ys _ _
    · rw [List.cons_append, lay_no k, lay_no k]
      exact lay_app xs ys _ _
theorem min2_nn {i j : Int} (h1 : 0 ≤ i) (h2 : 0 ≤ j) : 0 ≤ min2 i j := by unfold min2; split <;> omega
/-- what is due, by names and sums -/
def dOf (tags : List Str) (sums : List Int) : Str → Int := fun x => (((tags.zip sums).find? fun q => decide (q.1 = x)).map (·.2)).getD 0
theorem dOf_nn {tags : List Str} {sums : List Int} (h : ∀ x ∈ sums, 0 ≤ x) : NN (dOf tags sums) := fun x => by
  unfold dOf
  cases e : (tags.zip sums).find? fun q => decide (q.1 = x) with
  | none => exact Int.le_refl 0
  | some q =>
    have := List.mem_of_find?_eq_some e
    exact h q.2 (List.of_mem_zip (a := q.1) (b := q.2) this).2
theorem dOf_map : ∀ {tags : List Str} {sums : List Int}, tags.Nodup → tags.length = sums.length → tags.map (dOf tags sums) = sums
  | [], [], _, _ => rfl
  | t :: tags, s :: sums, nd, h => by
    rw [List.nodup_cons] at nd
    rw [List.map_cons]
    have e1 : dOf (t :: tags) (s :: sums) t = s := by unfold dOf; simp
    have e2 : tags.map (dOf (t :: tags) (s :: sums)) = tags.map (dOf tags sums) := List.map_congr_left fun x hx => by
      unfold dOf
      rw [List.zip_cons_cons, List.find?_cons]
      have : ¬ t = x := fun z => nd.1 (z ▸ hx)
      rw [decide_eq_false this]
    rw [e1, e2, dOf_map nd.2 (by simpa using h)]
  | [], _ :: _, _, h => by simp at h
  | _ :: _, [], _, h => by simp at h
theorem zip_dueP (d : Str → Int) : ∀ tags : List Str, tags.zip ((tags.map d).map PyData.int) = dueP tags d
  | [] => rfl
  | t :: tags => congrArg ((t, PyData.int (d t)) :: ·) (zip_dueP d tags)
theorem srt_dueP (d : Str → Int) (tags : List Str) : srt (fun q : Str × PyData => q.1) (dueP tags d) = dueP (srtS tags) d := srt_map (fun q : Str × PyData => q.1) (fun b => (b, PyData.int (d b))) tags
theorem srt_dueD (d : Str → Int) (tags : List Str) : (srt (fun q : Str × PyData => q.1) (dueP tags d)).map pairD = dueD (srtS tags) d := by rw [srt_dueP, dueP_pairs]
theorem zip_numP : ∀ (ls : List Str) (ns : List Int), zipD (ls.map .str) (ns.map .int) = (ls.zip ns).map numP
  | [], _ => rfl
  | _ :: _, [] => rfl
  | a :: ls, n :: ns => congrArg (numP (a, n) :: ·) (zip_numP ls ns)
structure Tags (tags : List Str) : Prop where
  nd : tags.Nodup
  pos : 0 < tags.length
  le : tags.length ≤ 6
  so : ∀ x ∈ tags, PyData.strOk x = true
theorem Tags.srt {tags : List Str} (T : Tags tags) : (srtS tags).Nodup ∧ Rise id (srtS tags) ∧ (srtS tags).length = tags.length ∧ ∀ x, x ∈ srtS tags ↔ x ∈ tags :=
  ⟨srtS_nodup' T.nd, srt_rise id tags, srt_len id tags, fun x => (srt_perm id tags).mem_iff⟩
where srtS_nodup' {l : List Str} (h : l.Nodup) : (srtS l).Nodup := (srt_perm id l).nodup_iff.mpr h
theorem zip_fst {α β : Type} : ∀ (as : List α) (bs : List β), (as.zip bs).map (·.1) = as.take bs.length
  | [], _ => by simp
  | _ :: _, [] => rfl
  | a :: as, b :: bs => congrArg (a :: ·) (zip_fst as bs)
theorem letters_nd : letters.Nodup := by decide +kernel
/-- the bookkeeping of folk's books -/
theorem folk_ok {tags : List Str} {lists : List (List Str)} (hl : ∀ l ∈ lists, l.length ≤ 100) : (folkB tags lists).Ok where
  nd := by
    show ((letters.zip lists).map (·.1)).Nodup
    rw [zip_fst]
    exact letters_nd.sublist (List.take_sublist _ _)
  len := by
    show (letters.zip lists).length ≤ 100
    rw [List.length_zip]
    have : letters.length = 6 := rfl
    omega
  row q hq := hl q.2 (List.of_mem_zip (a := q.1) (b := q.2) hq).2
theorem rowOf_mem {b : Bk} (nd : (b.rows.map (·.1)).Nodup) {p : Str} {l : List Str} (h : (p, l) ∈ b.rows) : rowOf b p = l := by
  have h2 := mem_rowOf (b := b) (p := p) (List.mem_map.mpr ⟨_, h, rfl⟩)
  have := nodup_inj (fun q : Str × List Str => q.1) nd _ h _ h2 rfl
  exact (congrArg Prod.snd this).symm
theorem folk_at {tags : List Str} {lists : List (List Str)} {k : Nat} {p : Str} {l : List Str} (h1 : letters[k]? = some p) (h2 : lists[k]? = some l) : (p, l) ∈ (folkB tags lists).rows := List.mem_of_getElem? (i := k) (by
  show (letters.zip lists)[k]? = _
  rw [List.getElem?_zip_eq_some]; exact ⟨h1, h2⟩)
theorem folk_row {tags : List Str} {lists : List (List Str)} {k : Nat} {p : Str} {l : List Str} (hl : ∀ l ∈ lists, l.length ≤ 100) (h1 : letters[k]? = some p) (h2 : lists[k]? = some l) : rowOf (folkB tags lists) p = l := rowOf_mem (folk_ok (tags := tags) hl).nd (folk_at h1 h2)
theorem folk_sit {tags : List Str} {lists : List (List Str)} {ps : List (Str × Int)} (T : Tags tags) (hl : ∀ l ∈ lists, l.length ≤ 100) (hs : ∀ l ∈ lists, ∀ x ∈ l, x ∈ tags) (hp : ps.length ≤ 20) (hq : ∀ q ∈ ps, q.1 ∈ letters.take lists.length) : Sit (folkB tags lists) (srtS tags) ps where
  ok := folk_ok hl
  nd := T.srt.1
  rise := T.srt.2.1
  len := by rw [T.srt.2.2.1]; have := T.le; omega
  pl := hp
  pay q h := by
    show q.1 ∈ (letters.zip lists).map (·.1)
    rw [zip_fst]; exact hq q h
  sub q hq x hx := (T.srt.2.2.2 x).mpr (hs q.2 (List.of_mem_zip (a := q.1) (b := q.2) hq).2 x hx)
/-! one list for all -/
structure Fam (tags : List Str) (sums purses : List Int) : Prop where
  t : Tags tags
  sl : tags.length = sums.length
  sn : ∀ x ∈ sums, 0 ≤ x
  pl : purses.length = 4
  pn : ∀ x ∈ purses, 0 ≤ x
theorem Fam.sums {tags : List Str} {sums purses : List Int} (F : Fam tags sums purses) : tags.map (dOf tags sums) = sums := dOf_map F.t.nd F.sl
theorem Fam.four {tags : List Str} {sums purses : List Int} (F : Fam tags sums purses) : ∃ a b c d, purses = [a, b, c, d] ∧ 0 ≤ a ∧ 0 ≤ b ∧ 0 ≤ c ∧ 0 ≤ d := by
  match purses, F.pl, F.pn with
  | [a, b, c, d], _, h => exact ⟨a, b, c, d, rfl, h a (by simp), h b (by simp), h c (by simp), h d (by simp)⟩
/-- of a form that compares: the depth is bounded -/
def Shp (n : Nat) (d : PyData) : Prop := d.canLay0 = true ∧ d.depth ≤ n
theorem shp_all {n : Nat} : ∀ {xs : List PyData}, (∀ x ∈ xs, Shp n x) → PyData.canLayAll0 xs = true ∧ PyData.depthAll xs ≤ n
  | [], _ => ⟨rfl, Nat.zero_le _⟩
  | x :: xs, h => by
    have h1 := h x (List.mem_cons_self ..)
    have h2 := shp_all fun y hy => h y (List.mem_cons_of_mem _ hy)
    exact ⟨Bool.and_eq_true_iff.mpr ⟨h1.1, h2.1⟩, Nat.max_le.mpr ⟨h1.2, h2.2⟩⟩
theorem Shp.tup {n : Nat} {xs : List PyData} (h : ∀ x ∈ xs, Shp n x) : Shp (n + 1) (.tuple xs) := ⟨(shp_all h).1, Nat.succ_le_succ (shp_all h).2⟩
theorem Shp.lst {n : Nat} {xs : List PyData} (h : ∀ x ∈ xs, Shp n x) : Shp (n + 1) (.list xs) := ⟨(shp_all h).1, Nat.succ_le_succ (shp_all h).2⟩
theorem Shp.int (i : Int) : Shp 0 (.int i) := ⟨rfl, Nat.le_refl _⟩
theorem Shp.str {i : Str} (h : PyData.strOk i = true) : Shp 0 (.str i) := ⟨h, Nat.le_refl _⟩
theorem Shp.num {q : Str × Int} (h : PyData.strOk q.1 = true) : Shp 1 (numP q) := .tup fun x hx => by
  rcases List.mem_cons.mp hx with rfl | hx
  · exact .str h
  · rw [List.mem_singleton.mp hx]; exact .int _
theorem Shp.nums {l : List (Str × Int)} (h : ∀ q ∈ l, PyData.strOk q.1 = true) : Shp 2 (.tuple (l.map numP)) := .tup fun x hx => by
  obtain ⟨q, hq, rfl⟩ := List.mem_map.mp hx
  exact .num (h q hq)
theorem Shp.due {bs : List Str} {d : Str → Int} (h : ∀ q ∈ bs, PyData.strOk q = true) : Shp 2 (dueT bs d) := .tup fun x hx => by
  obtain ⟨q, hq, rfl⟩ := List.mem_map.mp hx
  exact .num (h q hq)
theorem Shp.one {n : Nat} {d : PyData} (h : Shp n d) : Shp (n + 1) (.list [d]) := .lst fun x hx => by rw [List.mem_singleton.mp hx]; exact h
theorem Shp.sh {n : Nat} {d : PyData} (h : Shp n d) (hn : n ≤ 64 := by decide) : SeqAt.shaped d = true := Bool.and_eq_true_iff.mpr ⟨h.1, decide_eq_true (Nat.le_trans h.2 hn)⟩
theorem Shp.refl {n : Nat} {d : PyData} (h : Shp n d) : PyData.eqv d d = true := PySem.SeqAt.eqv_refl _ h.1
end Ol
set_option Elab.async false
set_option linter.all false
set_option maxRecDepth 100000
set_option maxHeartbeats 4000000
/-! OlR1: one list for all. -/
namespace Ol
open PySem L2
open Evl (Ex Ex.refl Ex.trans Ex.new ex_l ex_t fresh_back sz_of sz_lt)
theorem dAt_row {b : Bk} {ps : List (Str × Int)} {row : List Str} : ∀ (o : List Nat) (d : Str → Int), NN d → (∀ i ∈ o, rowOf b (pay ps i).1 = row ∧ 0 ≤ (pay ps i).2) → dAt b ps o d = layD row d ((o.map fun i => (pay ps i).2).sum) ∧ 0 ≤ (o.map fun i => (pay ps i).2).sum
  | [], d, h, _ => ⟨(congrArg (fun q : List (Str × Int) × (Str → Int) × Int => q.2.1) (lay_zero row d h)).symm, Int.le_refl _⟩
  | i :: o, d, h, hi => by
    obtain ⟨h1, h2⟩ := hi i (List.mem_cons_self ..)
    have e : (stp b ps d i).2.1 = layD row d (pay ps i).2 := by unfold stp; rw [h1]
    obtain ⟨h3, h4⟩ := dAt_row o (layD row d (pay ps i).2) (lay_nn row d _ h h2).1 fun j hj => hi j (List.mem_cons_of_mem _ hj)
    refine ⟨?_, by rw [List.map_cons, List.sum_cons]; omega⟩
    show dAt b ps o (stp b ps d i).2.1 = _
    rw [e, h3, lay_add h h2 h4]; rfl
/-- a step of the hand's own row -/
theorem lay_at {α : Type} [DecidableEq α] {xs ys : List α} {t : α} {d : α → Int} {r : Int} (nd : (xs ++ t :: ys).Nodup) (h : NN d) (hr : 0 ≤ r) :
    layD (xs ++ t :: ys) d r t = d t - min2 (layR xs d r) (d t) ∧ layR (xs ++ [t]) d r = layR xs d r - min2 (layR xs d r) (d t) ∧ layF (xs ++ [t]) d r = layF xs d r ++ (if decide (0 < min2 (layR xs d r) (d t)) = true then [(t, min2 (layR xs d r) (d t))] else []) := by
  rw [List.nodup_append] at nd
  obtain ⟨_, n2, n3⟩ := nd
  rw [List.nodup_cons] at n2
  have hx : t ∉ xs := fun z => n3 t z t (List.mem_cons_self ..) rfl
  have e1 : layD xs d r t = d t := layD_off hx
  have nr := (lay_nn xs d r h hr).2
  have hm := min2_nn nr (h t)
  have ea : layD (xs ++ t :: ys) d r = layD (t :: ys) (layD xs d r) (layR xs d r) := congrArg Prod.fst (lay_app xs (t :: ys) d r)
  have es := lay_snoc xs d r t
  rw [e1] at es
  refine ⟨?_, ?_, ?_⟩
  · rw [ea]
    by_cases k : 0 < min2 (layR xs d r) (layD xs d r t)
    · have : layD (t :: ys) (layD xs d r) (layR xs d r) = layD ys (put (layD xs d r) t (layD xs d r t - min2 (layR xs d r) (layD xs d r t))) (layR xs d r - min2 (layR xs d r) (layD xs d r t)) := by simp only [layD]; rw [lay_yes k]
      rw [this, layD_off n2.1, put_same, e1]
    · have : layD (t :: ys) (layD xs d r) (layR xs d r) = layD ys (layD xs d r) (layR xs d r) := by simp only [layD]; rw [lay_no k]
      rw [this, layD_off n2.1, e1]
      rw [e1] at k
      omega
  · show (lay (xs ++ [t]) d r).2.2 = _
    rw [es]
    split
    · rfl
    · show layR xs d r = _
      omega
  · show (lay (xs ++ [t]) d r).1 = _
    rw [es]
    split
    · rename_i k; rw [if_pos (decide_eq_true k)]
    · rename_i k; rw [if_neg (by simp [k]), List.append_nil]
theorem layF_mem : ∀ {row : List Str} {d : Str → Int} {r : Int} {q : Str × Int}, q ∈ layF row d r → q.1 ∈ row
  | [], _, _, _, h => by cases h
  | c :: row, d, r, q, h => by
    simp only [layF] at h
    by_cases k : 0 < min2 r (d c)
    · rw [lay_yes k] at h
      rcases List.mem_cons.mp h with rfl | z
      · exact List.mem_cons_self ..
      · exact List.mem_cons_of_mem _ (layF_mem z)
    · rw [lay_no k] at h
      exact List.mem_cons_of_mem _ (layF_mem h)
abbrev sP : Str := "p"
abbrev sQ : Str := "q"
abbrev sR : Str := "r"
def ps1 (purses : List Int) : List (Str × Int) := [sP, sQ, sR, sP].zip purses
def d_one (ds : List PyData) (r : Sd) : Prop := ∃ (tags : List Str) (sums purses : List Int), Fam tags sums purses ∧ ds = [.list (tags.map .str), .list (sums.map .int), .list (purses.map .int)] ∧ r = .d (.bool true)
abbrev N31 : List Str := ["_law_tags_here", "_law_sums_so", "_law_purses_so", "_law_host_here", "_law_dues_so", "_law_pays_so", "_law_left_so", "_law_got", "_law_rows", "_law_own", "_law_much_so", "_law_here"]
section
variable {P : Program} {w : World} {K : PySem.W.Frag} {mg : Str → Option Value} {base : Heap}
theorem sc31 : FnScope N31 ["_law_tags_here", "_law_sums_so", "_law_purses_so"] (defScope (topS 31)) := ⟨rfl, rfl, rfl, by decide +kernel, rfl, by decide +kernel, by decide +kernel⟩
theorem dues_eq {tags : List Str} {sums purses : List Int} (F : Fam tags sums purses) : (srt (fun q : Str × PyData => q.1) (tags.zip (sums.map PyData.int))).map pairD = dueD (srtS tags) (dOf tags sums) := by
  have : sums.map PyData.int = (tags.map (dOf tags sums)).map PyData.int := by rw [F.sums]
  rw [this, zip_dueP, srt_dueD]
theorem take_cut {α : Type} {l : List α} {i : Nat} {t : α} (h : l[i]? = some t) : l = l.take i ++ t :: l.drop (i + 1) ∧ l.take (i + 1) = l.take i ++ [t] := by
  obtain ⟨hi, rfl⟩ := List.getElem?_eq_some_iff.mp h
  exact ⟨by rw [List.getElem_cons_drop, List.take_append_drop], by rw [List.take_add_one, h]; rfl⟩
theorem ok_one {f : Addr} {fd : FuncData} (Fn : Fun K "_law_one_right" "_law_one_right" (topS 31) f fd) (B : Bl mg) (Fo : Dn P w K mg base "_law_folk" ["_law_tags_here", "_law_lists_so"] 1 (RelD d_folk)) (En : Dn P w K mg base "ends" ["book", "dues", "payments"] 6 (RelD d_ends))
    (Sb : Dn P w K mg base "sum_back" ["book", "dues", "payments", "order"] 8 (RelD d_sum_back)) (Pd : Dn P w K mg base "paid" ["book", "dues", "payer", "amount"] 7 (RelD d_paid)) :
    FnOk P w K mg base CX0 9 f fd ["_law_tags_here", "_law_sums_so", "_law_purses_so"] (spD K (RelD d_one)) := by
  refine fn_okD Fn sc31 (fun ds r h => by obtain ⟨_, _, _, _, rfl, _⟩ := h; rfl) fun cdv A outer s H E hr ds r h => ?_
  obtain ⟨tags, sums, purses, F, rfl, rfl⟩ := h
  obtain ⟨a, b', c, d', rfl, ha, hb, hc, hd⟩ := F.four
  have hu64 := hr.units
  have T := F.t
  have Ts := T.srt
  have hle := T.le
  have nn0 : NN (dOf tags sums) := dOf_nn F.sn
  have hsl := F.sl
  generalize hd0 : dOf tags sums = d0 at nn0
  have hsum : sums = tags.map d0 := by rw [← hd0, F.sums]
  have hdue := dues_eq F
  rw [hd0] at hdue
  generalize hA : [a, b', c, d'].sum = Am
  have hA' : a + (b' + (c + (d' + 0))) = Am := hA
  have hA0 : 0 ≤ Am := by omega
  let bk : Bk := folkB tags [tags, tags, tags]
  let ps : List (Str × Int) := [(sP, a), (sQ, b'), (sR, c), (sP, d')]
  have hl3 : ∀ l ∈ [tags, tags, tags], l.length ≤ 100 := fun l hl => by
    have : l = tags := by simpa using hl
    rw [this]; omega
  have rP : rowOf bk sP = tags := folk_row (k := 0) hl3 rfl rfl
  have rQ : rowOf bk sQ = tags := folk_row (k := 1) hl3 rfl rfl
  have rR : rowOf bk sR = tags := folk_row (k := 2) hl3 rfl rfl
  have rows : ∀ i, i < 4 → rowOf bk (pay ps i).1 = tags ∧ 0 ≤ (pay ps i).2 := fun i hi => by
    match i, hi with
    | 0, _ => exact ⟨rP, ha⟩
    | 1, _ => exact ⟨rQ, hb⟩
    | 2, _ => exact ⟨rR, hc⟩
    | 3, _ => exact ⟨rP, hd⟩
  have Si : Sit bk (srtS tags) ps := folk_sit T hl3 (fun l hl x hx => by
    have : l = tags := by simpa using hl
    rw [← this]; exact hx) (by show 4 ≤ 20; decide) (fun q hq => by
      have hq' : q.1 ∈ ps.map (·.1) := List.mem_map.mpr ⟨q, hq, rfl⟩
      have : ∀ x ∈ ps.map (·.1), x ∈ letters.take 3 := by
        show ∀ x ∈ [sP, sQ, sR, sP], x ∈ letters.take 3
        decide +kernel
      exact this _ hq')
  have Ag : Agree bk ps := ⟨fun i j hi hj => by rw [(rows i hi).1, (rows j hj).1]; exact Comp.refl _, fun i hi => (rows i hi).2⟩
  have eR : dAt bk ps (List.range 4) d0 = layD tags d0 Am := by
    have := (dAt_row (b := bk) (ps := ps) (List.range 4) d0 nn0 fun i hi => rows i (List.mem_range.mp hi)).1
    rw [this]; exact congrArg (layD tags d0) hA'
  have eO : dAt bk ps [2, 0, 3, 1] d0 = layD tags d0 Am := by
    have := (dAt_row (b := bk) (ps := ps) [2, 0, 3, 1] d0 nn0 fun i hi => rows i (by
      have : ∀ i ∈ [2, 0, 3, 1], i < 4 := by decide
      exact this i hi)).1
    rw [this]; refine congrArg (layD tags d0) ?_
    show c + (a + (d' + (b' + 0))) = Am
    omega
  have O4 : Ord ps [2, 0, 3, 1] := ⟨by decide, (by decide : ∀ i ∈ [2, 0, 3, 1], i < 4), fun i hi => (by decide : ∀ i, i < 4 → i ∈ [2, 0, 3, 1]) i hi, by decide⟩
  have gs : (gvs bk ps d0 [2, 0, 3, 1]).sum = layR tags d0 Am := by
    rw [gvs_sum Si O4, eO]
    have h := lay_tot Ts.1 tags d0 Am fun x hx => (Ts.2.2.2 x).mpr hx
    have e1 : (ps.map (·.2)).sum = Am := hA'
    omega
  have hlen : tags.length ≤ 6 := hle
  generalize hD : layD tags d0 Am = D at eR eO
  have hps : zipD ([sP, sQ, sR, sP].map .str) ([a, b', c, d'].map .int) = ps.map numP := rfl
  show Fin _ _ [.d (.list (tags.map .str)), .d (.list (sums.map .int)), .d (.list ([a, b', c, d'].map .int)), .u, .u, .u, .u, .u, .u, .u, .u, .u] [.u, .u, .u, .u, .u, .u, .u, .u, .u, .u, .u, .u] _
  refine fin_cons (r1_par 3 4 (r1 := .d bk.d) (r2 := .d (dueT (srtS tags) d0)) (el_cons (ev_f Fo hr (by decide) (el_cons (ev 0) (el1 (.frz (ev_repl (n := 3) (ds := [rowD tags]) (by decide) (by show 1 * 3 ≤ 100000; decide) (ev_lst (ed1 (ev_tupL B.tuple (ed1 (ev 0))))) (ev_int (i := 3)))))) ⟨[.list (tags.map .str), .list ([tags, tags, tags].map rowD)], rfl, rfl, tags, [tags, tags, tags], rfl, by omega, rfl⟩)
    (el1 (Ev.dc (ev_tupL B.tuple (ed1 (.frz (ev_srtZ (ns := tags) (ds2 := sums.map .int) B.sorted T.nd (by rw [List.length_map]; exact hsl) (ez_zip B.zip (ed2 (ev 0) (ev 1))))))) (congrArg PyData.tuple hdue)))) sc31.nd) ?_
  show Fin _ _ [.d (.list (tags.map .str)), .d (.list (sums.map .int)), .d (.list ([a, b', c, d'].map .int)), .d bk.d, .d (dueT (srtS tags) d0), .u, .u, .u, .u, .u, .u, .u] _ _
  refine fin_cons (r1_set 5 (Ev.dc (d2 := paysD ps) (ev_tupZ (ds := [sP, sQ, sR, sP].map .str) (ds2 := [a, b', c, d'].map .int) B.tuple (ez_zip B.zip (ed2 (.frz (ev_lst (ed_cons ev_str (ed_cons ev_str (ed2 ev_str ev_str))))) (ev 2)))) rfl) sc31.nd) ?_
  let envs : Nat → List Sd := fun i => [.d (.list (tags.map .str)), .d (.list (sums.map .int)), .d (.list ([a, b', c, d'].map .int)), .d bk.d, .d (dueT (srtS tags) d0), .d (paysD ps), .d (.int (layR (tags.take i) d0 Am)), .o none (Lf K ((tags.take i).map fun t => numP (t, D t))), .d (.tuple ((layF (tags.take i) d0 Am).map numP)), .u, .u, .u]
  refine fin_cons (r1_par3 6 7 8 (el_cons (Ev.dc (ev_sumL (ns := [a, b', c, d']) B.sum (ed1 (ev 2))) (congrArg PyData.int hA)) (el_cons (ev_lst ed_nil) (el1 (ev_tup ed_nil)))) sc31.nd) ?_
  refine fin_cons (r1_for (ds := zipD (tags.map .str) (sums.map .int)) [9, 10] envs PassesOwn.never (ei_zipL B.zip (ed2 (ev 0) (ev 1))) (by exact ⟨rfl, rfl, rfl, rfl, rfl, rfl, rfl, rfl, rfl, trivial⟩) fun i dd hdd => ?_) ?_
  · obtain ⟨u, v, hu, hv, rfl⟩ := zipD_get hdd
    obtain ⟨t, ht, rfl⟩ : ∃ t, tags[i]? = some t ∧ u = .str t := by
      rw [List.getElem?_map] at hu
      cases q : tags[i]? with
      | none => rw [q] at hu; cases hu
      | some c => rw [q] at hu; cases hu; exact ⟨c, rfl, rfl⟩
    have ev' : v = .int (d0 t) := by
      rw [hsum, List.map_map, List.getElem?_map, ht] at hv
      exact (Option.some.inj hv).symm
    subst ev'
    have hi : i < tags.length := (List.getElem?_eq_some_iff.mp ht).1
    obtain ⟨c1, c2⟩ := take_cut ht
    obtain ⟨s1, s2, s3⟩ := lay_at (xs := tags.take i) (ys := tags.drop (i + 1)) (t := t) (d := d0) (r := Am) (by rw [← c1]; exact T.nd) nn0 hA0
    rw [← c1, hD] at s1
    rw [← c2] at s2 s3
    have hF := layF_len (tags.take i) d0 Am
    rw [List.length_take] at hF
    refine ⟨_, tg_tup (tgs_cons (tg_name 9 sc31.nd) (tgs_cons (tg_name 10 sc31.nd) tgs_nil)), ?_⟩
    refine rn_cons (r1_set 11 (ev_min B.min (ed2 (ev 6) (ev 10))) sc31.nd) ?_
    refine rn_cons (r1_app 7 (ev_tup (ed2 (ev 9) (ev_sub (ev 10) (ev 11)))) rfl rfl (by rw [List.length_map, List.length_take]; omega)) ?_
    refine rn_cons (r1_par 8 6 (el_cons (ev_catt (ds := (layF (tags.take i) d0 Am).map numP) (by rw [List.length_map]; split <;> (simp only [List.length_cons, List.length_nil]; omega)) (ev 8) (ev_rep01 (ds := [.tuple [.str t, .int (min2 (layR (tags.take i) d0 Am) (d0 t))]]) (by simp) (ev_tup (ed1 (ev_tup (ed2 (ev 9) (ev 11))))) (ev_intB B.int (ed1 (ev_gt (ev 11) (ev_int (i := 0))))))) (el1 (ev_sub (ev 6) (ev 11)))) sc31.nd) ?_
    refine rn_nil.wk ?_
    show Wk [_, _, _, _, _, _, .d (.int (layR (tags.take i) d0 Am - min2 (layR (tags.take i) d0 Am) (d0 t))), .o none (Lf K (((tags.take i).map fun t => numP (t, D t)) ++ [.tuple [.str t, .int (d0 t - min2 (layR (tags.take i) d0 Am) (d0 t))]])), .d (.tuple (((layF (tags.take i) d0 Am).map numP) ++ (if decide (0 < min2 (layR (tags.take i) d0 Am) (d0 t)) = true then [.tuple [.str t, .int (min2 (layR (tags.take i) d0 Am) (d0 t))]] else []))), _, _, _] (envs (i + 1))
    show Wk _ [.d (.list (tags.map .str)), .d (.list (sums.map .int)), .d (.list ([a, b', c, d'].map .int)), .d bk.d, .d (dueT (srtS tags) d0), .d (paysD ps), .d (.int (layR (tags.take (i + 1)) d0 Am)), .o none (Lf K ((tags.take (i + 1)).map fun t => numP (t, D t))), .d (.tuple ((layF (tags.take (i + 1)) d0 Am).map numP)), .u, .u, .u]
    rw [s2, s3, c2, List.map_append, List.map_append, ← s1]
    refine ⟨rfl, rfl, rfl, rfl, rfl, rfl, rfl, rfl, ?_, trivial⟩
    congr 3
    split <;> rfl
  · have hz : (zipD (tags.map PyData.str) (sums.map .int)).length = tags.length := by rw [zipD_len, List.length_map, List.length_map, ← hsl, Nat.min_self]
    rw [hz]
    show Fin _ _ [.d (.list (tags.map .str)), .d (.list (sums.map .int)), .d (.list ([a, b', c, d'].map .int)), .d bk.d, .d (dueT (srtS tags) d0), .d (paysD ps), .d (.int (layR (tags.take tags.length) d0 Am)), .o none (Lf K ((tags.take tags.length).map fun t => numP (t, D t))), .d (.tuple ((layF (tags.take tags.length) d0 Am).map numP)), .u, .u, .u] _ _
    rw [List.take_length]
    have hks : (tags.map fun t => numP (t, D t)) = (dueP tags D).map pairD := (dueP_pairs ..).symm
    refine fin_frz 7 ?_ rfl
    have sob : ∀ q ∈ srtS tags, PyData.strOk q = true := fun q hq => T.so q ((Ts.2.2.2 q).mp hq)
    have shE := (Shp.due (d := D) sob).one
    have hEn : d_ends [bk.d, dueT (srtS tags) d0, paysD ps] (.d (.list [dueT (srtS tags) D])) := by
      have := d_ends_mk Si (by show 4 < 5; decide) Ag nn0
      have e4 : ps.length = 4 := rfl
      rw [e4, eR] at this
      exact this
    refine fin_ifN (et_ne (d2 := .list [dueT (srtS tags) D]) (ev_f En hr (by decide) (el_cons (ev 3) (el_cons (ev 4) (el1 (ev 5)))) ⟨[bk.d, dueT (srtS tags) d0, paysD ps], rfl, rfl, hEn⟩)
      (.frz (ev_lst (ed1 (Ev.dc (ev_tupL B.tuple (ed1 (.frz (ev_srtPT (ks := dueP tags D) B.sorted (by rw [dueP_keys]; exact T.nd) (ed1 (Ev.dc (ev 7) (by rw [hks]))))))) (by rw [srt_dueD]; rfl))))) hu64 shE.sh shE.sh) (by rw [shE.refl]; rfl) ?_
    refine fin_ifN (et_ne (ev_f Sb hr (Nat.le_refl _) (el_cons (ev 3) (el_cons (ev 4) (el_cons (ev 5) (el1 (Ev.dc (d2 := ordD [2, 0, 3, 1]) (ev_tup (ed_cons ev_int (ed_cons ev_int (ed2 ev_int ev_int)))) rfl))))) ⟨[bk.d, dueT (srtS tags) d0, paysD ps, ordD [2, 0, 3, 1]], rfl, rfl, bk, srtS tags, ps, d0, _, rfl, Si, O4, rfl⟩) (ev 6) hu64 rfl rfl) (by rw [gs, (Shp.int _).refl]; rfl) ?_
    have hlim : CPow 10 40 := ⟨by decide, by decide, by decide⟩
    have e40 : ((10 : Int) ^ (40 : Int).toNat) = 10 ^ 40 := rfl
    have sh1 : Shp 2 (.tuple ((layF tags d0 (min2 (10 ^ 40) Am)).map numP)) := Shp.nums fun q hq => T.so _ (layF_mem hq)
    have sh2 : Shp 2 (.tuple ((layF tags d0 Am).map numP)) := Shp.nums fun q hq => T.so _ (layF_mem hq)
    refine fin_ret (Ev.dc (ev_or (y := decide (10 ^ 40 < Am)) (ev_eq (ev_f Pd hr (by decide) (el_cons (ev 3) (el_cons (ev 4) (el_cons (ev_str (i := sQ)) (el1 (ev_min B.min (ed2 (ev_pow (i := 10) (j := 40) ev_int ev_int hlim) (Ev.dc (ev_sumL (ns := [a, b', c, d']) B.sum (ed1 (ev 2))) (congrArg PyData.int hA)))))))) ⟨[bk.d, dueT (srtS tags) d0, .str sQ, .int (min2 (10 ^ 40) Am)], rfl, rfl, bk, srtS tags, d0, sQ, min2 (10 ^ 40) Am, rfl, Si.ok, Si.nd, Si.len, ?_, ?_, rfl⟩) (ev 8) hu64 ?_ sh2.sh)
      (fun _ => ev_one (ev_gt (Ev.dc (ev_sumL (ns := [a, b', c, d']) B.sum (ed1 (ev 2))) (congrArg PyData.int hA)) (ev_pow (i := 10) (j := 40) ev_int ev_int hlim))) fun _ => rfl) ?_)
    · show sQ ∈ (letters.zip [tags, tags, tags]).map (·.1)
      rw [zip_fst]
      show sQ ∈ letters.take 3
      decide +kernel
    · intro x hx
      rw [rQ] at hx
      exact (Ts.2.2.2 x).mpr hx
    · rw [rQ]; exact sh1.sh
    · rw [rQ]
      by_cases k : 10 ^ 40 < Am
      · rw [decide_eq_true k, Bool.or_true]
      · have : min2 (10 ^ 40) Am = Am := by unfold min2; split <;> omega
        rw [this, sh2.refl, Bool.true_or]
end
end Ol
set_option Elab.async false
set_option linter.all false
set_option maxRecDepth 100000
set_option maxHeartbeats 2000000
/-! OlRx: a list's slice backwards; tuple(range(n)). -/
namespace Ol
open PySem L2 PyProof.Rows PySem.Spec
open Evl (Ex Ex.refl Ex.trans Ex.new ex_l ex_t fresh_back sz_of sz_lt)
theorem vals_rev : ∀ {xs : List V} {us : List Value}, Vals xs us → Vals xs.reverse us.reverse := by
  have app : ∀ {xs ys : List V} {us vs : List Value}, Vals xs us → Vals ys vs → Vals (xs ++ ys) (us ++ vs) := by
    intro xs ys us vs h
    induction h with
    | nil => intro h2; exact h2
    | cons a b ih => intro h2; exact .cons a (ih h2)
  intro xs us h
  induction h with
  | nil => exact .nil
  | cons a b ih => rw [List.reverse_cons, List.reverse_cons]; exact app ih (.cons a .nil)
theorem dpa_rev {K : PySem.W.Frag} {H : Hp} {xs : List V} {ds : List PyData} (h : DpAll K H xs ds) : DpAll K H xs.reverse ds.reverse := by
  rw [dpa_map] at h ⊢
  refine ⟨by rw [List.length_reverse, List.length_reverse]; exact h.1, fun i v d hv hd => ?_⟩
  have hi := (List.getElem?_eq_some_iff.mp hv).1
  rw [List.length_reverse] at hi
  rw [List.getElem?_reverse hi] at hv
  rw [List.getElem?_reverse (by rw [← h.1]; exact hi), ← h.1] at hd
  exact h.2 _ v d hv hd
section
variable {X : Cx} {e se : Expr} {te ts : TE} {pos p2 : Pos}
def tRevSl (K : PySem.W.Frag) (te ts : TE) : TE := fun σ H Q => te σ H fun x H1 => ts σ H1 fun y H2 => ∃ p xs, x = .ref p ∧ y = .int (-1) ∧ SqL K H2 p xs ∧ ∀ q, H2 q = none → Q (.ref q) (upd H2 q (.lst xs.reverse))
theorem pe_revSl (he : PE X e te) (hs : PE X se ts) : PE X (.Subscript e (.Slice none none (some se) p2) pos) (tRevSl X.K te ts) := by
  refine ⟨fun pins s σ H Q I h => ?_⟩
  refine Subscript_ (thn (he.run pins s σ H _ I h) fun v s1 ⟨x, H1, I1, r1, q1⟩ => ?_)
  have pn := (po_none (X := X)).run pins s1 σ H1 (fun o H' => o = none ∧ H' = H1) I1 ⟨rfl, rfl⟩
  refine wpAny_Slice (thn pn fun vl s2 ⟨l, H2, I2, pl, q2⟩ => ?_)
  obtain ⟨rfl, rfl⟩ := q2
  refine thn ((po_none (X := X)).run pins s2 σ _ (fun o H' => o = none ∧ H' = H2) I2 ⟨rfl, rfl⟩) fun vu s3 ⟨u, H3, I3, pu, q3⟩ => ?_
  obtain ⟨rfl, rfl⟩ := q3
  rw [evalPart_some]
  refine thn (hs.run pins s3 σ _ _ I3 q1) fun vst s4 ⟨y, H4, I4, r4, q4⟩ => ?_
  · obtain ⟨p, xs, rfl, rfl, hx, q⟩ := q4
    obtain ⟨t4, rfl⟩ := r4
    have pst : IsPart (.int (-1) t4) (some (-1)) := .int _ _
    generalize Value.int (-1) t4 = vst at pst ⊢
    have I5 : Inv X pins σ H4 { s4 with heap := s4.heap.push { cls := .type "slice", data := .fields #[vl, vu, vst] } } := I4.kept (t' := s4.toks) fun b ob q => Heap.get?_push_of_some _ q
    cases r1
    obtain ⟨its, r, ht, hz⟩ := I5.list hx
    have hlen := r.length
    show wpAny (model X.prog X.w) X.A (subscriptTail e (.Slice none none (some se) p2) (.ref p) (.ref s4.heap.objs.size)) (EP X pins σ Q) X.xe { s4 with heap := s4.heap.push { cls := .type "slice", data := .fields #[vl, vu, vst] } }
    refine tail_any (ops := [.ref p, .ref s4.heap.objs.size]) ht.isList.typeIs slot_list_getitem.lookup ?_ (by with_unfolding_all rfl)
    refine wpAny_getItem_list_slice ht.isList (Heap.IsSliceOf.new ..) pl pu pst (by simp) ?_ (by rw [List.size_toArray] <;> omega)
    rw [PySem.W.krv_pick]
    refine ⟨.ref (s4.heap.push { cls := .type "slice", data := .fields #[vl, vu, vst] }).objs.size, _, I5.laid (t' := s4.toks) (o := .lst xs.reverse) (fun b ob q => Heap.get?_push_of_some _ q) (Nat.le_refl _) ?_, rfl, q _ (I5.hok.fresh (Nat.le_refl _))⟩
    exact ⟨by rw [List.length_reverse]; exact hz, _, 0, vals_rev r, Heap.get?_push_size _ rfl⟩
end
section
variable {X : Cx} {env env1 env2 env' : List Sd} {a b e : Expr} {pos p pos' p2 : Pos} {ds : List PyData}
theorem ev_slRev (ha : Ev X a env env1 (.d (.list ds))) (hb : Ev X b env1 env2 (.d (.int (-1)))) : Ev X (.Subscript a (.Slice none none (some b) p2) pos) env env2 (.o none (Lf X.K ds.reverse)) := fun β σ H H1 Q S q =>
  teW.of (pe_revSl peW peW) (two ha hb S fun x y H' H2 S' ex p1 p2 => by
    obtain ⟨l, xs, rfl, hs, hd⟩ := dp_lst p1
    exact ⟨l, xs, rfl, dp_int p2, ex_l S'.ex hs, (KR.of S' ex q).newL S'.ex (dpa_rev hd)⟩)
theorem ev_tupRg {n : Nat} (hn : n ≤ 100000) (hm : X.mg "tuple" = none) (hm2 : X.mg "range" = none) (ha : Ev X a env env1 (.d (.int n))) (hg : Gl X "tuple" := by rfl) (hg2 : Gl X "range" := by rfl) (hc : X.calm = true := by rfl)
    (na : starEach [a] X.env = (false, eval a X.env) :: starEach [] X.env := by rfl) (nb : starEach [.Call (.Name "range" p) [a] [] pos'] X.env = (false, eval (.Call (.Name "range" p) [a] [] pos') X.env) :: starEach [] X.env := by rfl) : Ev X (.Call (.Name "tuple" p2) [.Call (.Name "range" p) [a] [] pos'] [] pos) env env1 (.d (.tuple (irange 0 n))) := fun β σ H H1 Q S q =>
  teW.of (pe_tupRg hc hg hm (prg_1 hg2 hm2 peW na) nb) (ha β σ H H1 _ S fun v H' H2 S' ex R => ⟨n, dp_int R.d, ⟨by omega, by omega, by omega, by omega, by omega⟩, (KR.of S' ex q).newT S'.ex (by
    unfold rgV irange
    rw [dpa_map, List.length_map, List.length_map, List.length_range, List.length_range]
    refine ⟨by omega, fun i v d hv hd => ?_⟩
    rw [List.getElem?_map] at hv hd
    cases h1 : (List.range ((n : Int) - 0).toNat)[i]? with
    | none => rw [h1] at hv; cases hv
    | some x =>
      cases h2 : (List.range n)[i]? with
      | none => rw [h2] at hd; cases hd
      | some y =>
        rw [h1] at hv; rw [h2] at hd
        have ex := List.getElem?_eq_some_iff.mp h1
        have ey := List.getElem?_eq_some_iff.mp h2
        obtain ⟨_, ex⟩ := ex
        obtain ⟨_, ey⟩ := ey
        rw [List.getElem_range] at ex ey
        subst ex; subst ey
        cases hv; cases hd
        exact .int _)⟩)
end
end Ol
set_option Elab.async false
set_option linter.all false
set_option maxRecDepth 100000
set_option maxHeartbeats 2000000
/-! OlM4: the plain laws of the circle and of the rests. -/
namespace Ol
open PySem L2
theorem nodup_sub_len {α : Type} [DecidableEq α] : ∀ {l m : List α}, l.Nodup → (∀ x ∈ l, x ∈ m) → l.length ≤ m.length
  | [], _, _, _ => Nat.zero_le _
  | a :: l, m, nd, h => by
    rw [List.nodup_cons] at nd
    have ha := h a (List.mem_cons_self ..)
    have := nodup_sub_len (l := l) (m := m.erase a) nd.2 fun x hx => (List.mem_erase_of_ne (fun e : x = a => nd.1 (e ▸ hx))).mpr (h x (List.mem_cons_of_mem _ hx))
    rw [List.length_erase_of_mem ha] at this
    have h1 := List.length_pos_of_mem ha
    rw [List.length_cons]; omega
/-! the dict by texts -/
def keysS (L : List (Str × PyData)) : List Str := L.map (·.1)
def putS (L : List (Str × PyData)) (x : Str) (v : PyData) : List (Str × PyData) := if x ∈ keysS L then L.map (fun q => if q.1 = x then (q.1, v) else q) else L ++ [(x, v)]
theorem any_key {L : List (Str × PyData)} {x : Str} : ((kvT L).any fun q => decide (q.1 = Sum.inr x)) = decide (x ∈ keysS L) := by
  unfold kvT keysS
  rw [Bool.eq_iff_iff, List.any_eq_true, decide_eq_true_iff, List.mem_map]
  constructor
  · rintro ⟨q, hq, e⟩
    obtain ⟨u, hu, rfl⟩ := List.mem_map.mp hq
    exact ⟨u, hu, Sum.inr.inj (of_decide_eq_true e)⟩
  · rintro ⟨u, hu, rfl⟩
    exact ⟨_, List.mem_map.mpr ⟨u, hu, rfl⟩, decide_eq_true rfl⟩
theorem putD_S {L : List (Str × PyData)} {x : Str} {v : PyData} : putD (kvT L) (Sum.inr x) v = kvT (putS L x v) := by
  unfold putD putS
  rw [any_key]
  by_cases h : x ∈ keysS L
  · rw [if_pos (decide_eq_true h), if_pos h]
    unfold kvT
    rw [List.map_map, List.map_map]
    refine List.map_congr_left fun q _ => ?_
    show (if (Sum.inr q.1 : L2.Key) = Sum.inr x then ((Sum.inr q.1 : L2.Key), v) else (Sum.inr q.1, q.2)) = _
    by_cases e : q.1 = x
    · rw [if_pos (congrArg Sum.inr e)]
      show _ = ((Sum.inr (if q.1 = x then (q.1, v) else q).1 : L2.Key), (if q.1 = x then (q.1, v) else q).2)
      rw [if_pos e]
    · rw [if_neg (fun z => e (Sum.inr.inj z))]
      show _ = ((Sum.inr (if q.1 = x then (q.1, v) else q).1 : L2.Key), (if q.1 = x then (q.1, v) else q).2)
      rw [if_neg e]
  · rw [if_neg (by rw [decide_eq_false h]; exact Bool.false_ne_true), if_neg h]
    unfold kvT
    rw [List.map_append]; rfl
theorem look_S {L : List (Str × PyData)} {x : Str} : (lookD (kvT L) (Sum.inr x)).isSome = decide (x ∈ keysS L) := by
  rw [← any_key]
  unfold lookD
  rw [Option.isSome_map, Bool.eq_iff_iff, List.find?_isSome, List.any_eq_true]
theorem keys_put {L : List (Str × PyData)} {x : Str} {v : PyData} : keysS (putS L x v) = if x ∈ keysS L then keysS L else keysS L ++ [x] := by
  unfold putS
  split
  · unfold keysS
    rw [List.map_map]
    refine List.map_congr_left fun q _ => ?_
    show (if q.1 = x then (q.1, v) else q).1 = q.1
    split <;> rfl
  · unfold keysS; rw [List.map_append]; rfl
/-! the circle -/
def rotF (tags : List Str) (k : Nat) : List Str := tags.drop k ++ tags.take k
theorem rot_len {tags : List Str} {k : Nat} (h : k ≤ tags.length) : (rotF tags k).length = tags.length := by
  unfold rotF; rw [List.length_append, List.length_drop, List.length_take]; omega
theorem rot_get {tags : List Str} {k i : Nat} (h : k < tags.length) (hi : i < tags.length) : (rotF tags k)[i]? = tags[(k + i) % tags.length]? := by
  unfold rotF
  rcases Nat.lt_or_ge i (tags.length - k) with c | c
  · rw [List.getElem?_append_left (by rw [List.length_drop]; exact c), List.getElem?_drop, Nat.mod_eq_of_lt (by omega)]
  · have : (k + i) % tags.length = k + i - tags.length := by
      rw [Nat.mod_eq_sub_mod (by omega), Nat.mod_eq_of_lt (by omega)]
    rw [List.getElem?_append_right (by rw [List.length_drop]; exact c), List.length_drop, this, List.getElem?_take, if_pos (by omega)]
    congr 1; omega
theorem rot_mem {tags : List Str} {k : Nat} {x : Str} : x ∈ rotF tags k ↔ x ∈ tags := by
  unfold rotF
  rw [List.mem_append, Or.comm, ← List.mem_append, List.take_append_drop]
theorem rot_comp {tags : List Str} (nd : tags.Nodup) {i j : Nat} (h : i ≤ j) : Comp (rotF tags i) (rotF tags j) := by
  have e1 : (tags.drop i).take (j - i) ++ tags.drop j = tags.drop i := by
    have := List.take_append_drop (j - i) (tags.drop i)
    rw [List.drop_drop, show i + (j - i) = j by omega] at this
    exact this
  have e2 : tags.take i ++ (tags.drop i).take (j - i) = tags.take j := by
    have : j = i + (j - i) := by omega
    conv => rhs; rw [this, List.take_add]
  have l1 : rotF tags i = (tags.drop i).take (j - i) ++ (tags.drop j ++ tags.take i) := by
    unfold rotF; rw [← List.append_assoc, e1]
  have l2 : rotF tags j = (tags.drop j ++ tags.take i) ++ (tags.drop i).take (j - i) := by
    unfold rotF; rw [List.append_assoc, e2]
  rw [l1, l2]
  refine comp_rot fun x h1 h2 => ?_
  have n1 : (tags.drop i).Nodup := nd.sublist (List.drop_sublist ..)
  rw [← e1, List.nodup_append] at n1
  rcases List.mem_append.mp h2 with h | h
  · exact n1.2.2 x h1 x h rfl
  · have n2 := nd
    rw [← List.take_append_drop i tags, List.nodup_append] at n2
    exact n2.2.2 x h x (List.mem_of_mem_take h1) rfl
theorem rot_comp' {tags : List Str} (nd : tags.Nodup) (i j : Nat) : Comp (rotF tags i) (rotF tags j) := by
  rcases Nat.le_total i j with h | h
  · exact rot_comp nd h
  · exact (rot_comp nd h).symm
/-- how many steps on: to the next open one -/
def stepsC (tags T : List Str) (k : Nat) : Nat := if T.length < tags.length then (rotF tags k).findIdx (fun x => !decide (x ∈ T)) else 0
def nxtT (tags T : List Str) (k : Nat) : Str := tags.getD ((k + stepsC tags T k) % tags.length) empS
def cirS (tags : List Str) (L : List (Str × PyData)) (k : Nat) : List (Str × PyData) := putS L (nxtT tags (keysS L) k) (.int k)
def cir (tags : List Str) (ss : List Nat) : List (Str × PyData) := ss.foldl (cirS tags) []
theorem cir_snoc {tags : List Str} {ss : List Nat} {k : Nat} : cir tags (ss ++ [k]) = cirS tags (cir tags ss) k := by unfold cir; rw [List.foldl_append]; rfl
structure CInv (tags bs : List Str) (L : List (Str × PyData)) (n : Nat) (d : Str → Int) : Prop where
  nd : (keysS L).Nodup
  sub : ∀ x ∈ keysS L, x ∈ tags
  len : L.length = min n tags.length
  due : ∀ x ∈ tags, d x = if x ∈ keysS L then 0 else 1
  tt : tot bs d = (tags.length : Int) - (L.length : Int)
  nn : NN d
theorem keys_len {L : List (Str × PyData)} : (keysS L).length = L.length := List.length_map ..
/-- the steps of one hand: each but the last finds a taken one -/
structure StepsC (tags T : List Str) (k n : Nat) : Prop where
  lt : n < tags.length
  full : n = 0 ∨ T.length < tags.length
  bef : ∀ i, i < n → tags.getD ((k + i) % tags.length) empS ∈ T
  stop : tags.getD ((k + n) % tags.length) empS ∉ T ∨ ¬ T.length < tags.length
theorem getD_of {l : List Str} {i : Nat} {x : Str} (h : l[i]? = some x) : l.getD i empS = x := by rw [List.getD_eq_getElem?_getD, h]; rfl
theorem steps_ok {tags T : List Str} {k : Nat} (nd : tags.Nodup) (hk : k < tags.length) (nT : T.Nodup) (sT : ∀ x ∈ T, x ∈ tags) : StepsC tags T k (stepsC tags T k) ∧
    (T.length < tags.length → (rotF tags k).find? (fun x => !decide (x ∈ T)) = some (nxtT tags T k)) ∧ nxtT tags T k ∈ tags ∧ (T.length < tags.length → nxtT tags T k ∉ T) := by
  have hrl := rot_len (tags := tags) (k := k) (Nat.le_of_lt hk)
  by_cases c : T.length < tags.length
  · have es : stepsC tags T k = (rotF tags k).findIdx (fun x => !decide (x ∈ T)) := by unfold stepsC; rw [if_pos c]
    obtain ⟨x, hx, hn⟩ : ∃ x, x ∈ tags ∧ x ∉ T := by
      refine Classical.byContradiction fun z => ?_
      have : ∀ x ∈ tags, x ∈ T := fun x hx => Classical.byContradiction fun w => z ⟨x, hx, w⟩
      have := nodup_sub_len nd this
      omega
    have hlt : (rotF tags k).findIdx (fun x => !decide (x ∈ T)) < (rotF tags k).length := List.findIdx_lt_length_of_exists ⟨x, rot_mem.mpr hx, by simp [hn]⟩
    generalize hn' : (rotF tags k).findIdx (fun x => !decide (x ∈ T)) = n at es hlt
    have at_ : ∀ i, i < tags.length → ∃ y, (rotF tags k)[i]? = some y ∧ tags.getD ((k + i) % tags.length) empS = y ∧ y ∈ tags := fun i hi => by
      have h1 : i < (rotF tags k).length := by rw [hrl]; exact hi
      refine ⟨(rotF tags k)[i], List.getElem?_eq_getElem h1, ?_, rot_mem.mp (List.getElem_mem h1)⟩
      have := rot_get hk hi
      rw [List.getElem?_eq_getElem h1] at this
      exact getD_of this.symm
    obtain ⟨t, ht, et, mt⟩ := at_ n (by rw [← hrl]; exact hlt)
    have hp : (!decide (t ∈ T)) = true := by
      have := List.findIdx_getElem (p := fun x => !decide (x ∈ T)) (xs := rotF tags k) (w := by rw [hn']; exact hlt)
      have e : (rotF tags k)[(rotF tags k).findIdx (fun x => !decide (x ∈ T))]? = some t := by rw [hn']; exact ht
      obtain ⟨w, e⟩ := List.getElem?_eq_some_iff.mp e
      rw [e] at this
      exact this
    have enx : nxtT tags T k = t := by unfold nxtT; rw [es]; exact et
    have htn : t ∉ T := by simpa using hp
    have hbef : ∀ i, i < n → tags.getD ((k + i) % tags.length) empS ∈ T := fun i hi => by
      obtain ⟨y, hy, ey, _⟩ := at_ i (by omega)
      rw [ey]
      have := List.not_of_lt_findIdx (p := fun x => !decide (x ∈ T)) (xs := rotF tags k) (i := i) (by rw [hn']; exact hi)
      obtain ⟨w, e⟩ := List.getElem?_eq_some_iff.mp hy
      rw [e] at this
      simpa using this
    refine ⟨⟨by rw [es, ← hrl]; exact hlt, .inr c, by rw [es]; exact hbef, .inl (by rw [es, et]; exact htn)⟩, fun _ => ?_, by rw [enx]; exact mt, fun _ => by rw [enx]; exact htn⟩
    rw [enx, List.find?_eq_some_iff_append]
    obtain ⟨c1, _⟩ := take_cut ht
    refine ⟨hp, (rotF tags k).take n, _, c1, fun a ha => ?_⟩
    obtain ⟨i, hi⟩ := List.mem_iff_getElem?.mp ha
    rw [List.getElem?_take] at hi
    split at hi
    · rename_i hin
      obtain ⟨y, hy, ey, _⟩ := at_ i (by omega)
      rw [hy] at hi
      have := hbef i hin
      rw [ey, Option.some.inj hi] at this
      simp [this]
    · cases hi
  · have es : stepsC tags T k = 0 := by unfold stepsC; rw [if_neg c]
    refine ⟨⟨by rw [es]; omega, .inl es, fun i hi => by rw [es] at hi; omega, .inr c⟩, fun z => absurd z c, ?_, fun z => absurd z c⟩
    unfold nxtT
    rw [es, Nat.add_zero, Nat.mod_eq_of_lt hk, getD_of (List.getElem?_eq_getElem hk)]
    exact List.getElem_mem hk
theorem find_cg {p q : Str → Bool} {l : List Str} (h : ∀ x ∈ l, p x = q x) : l.find? p = l.find? q := by
  induction l with
  | nil => rfl
  | cons a l ih => rw [List.find?_cons, List.find?_cons, h a (List.mem_cons_self ..), ih fun x hx => h x (List.mem_cons_of_mem _ hx)]
theorem CInv.step {tags bs : List Str} {L : List (Str × PyData)} {n k : Nat} {d : Str → Int} (nd : tags.Nodup) (nb : bs.Nodup) (hb : ∀ x, x ∈ bs ↔ x ∈ tags) (C : CInv tags bs L n d) (hk : k < tags.length) : CInv tags bs (cirS tags L k) (n + 1) (layD (rotF tags k) d 1) := by
  obtain ⟨S, f, mt, nt⟩ := steps_ok nd hk C.nd C.sub
  have e1 : layD (rotF tags k) d 1 = one (rotF tags k) d := by
    have := lay_succ (rotF tags k) d 0 C.nn (Int.le_refl _)
    rw [show (0 : Int) + 1 = 1 by decide] at this
    rw [this]
    exact congrArg (fun q : List (Str × Int) × (Str → Int) × Int => q.2.1) (lay_zero (rotF tags k) _ (one_nn C.nn))
  have ef : (rotF tags k).find? (opn d) = (rotF tags k).find? (fun x => !decide (x ∈ keysS L)) := by
    refine find_cg fun x hx => ?_
    have h := C.due x (rot_mem.mp hx)
    show decide (0 < d x) = _
    rw [h]
    by_cases q : x ∈ keysS L
    · rw [if_pos q]; simp [q]
    · rw [if_neg q]; simp [q]
  have hl := C.len
  rw [e1]
  unfold cirS
  generalize hT : nxtT tags (keysS L) k = t at f mt nt ⊢
  have kl := keys_len (L := L)
  by_cases c : (keysS L).length < tags.length
  · have hn := nt c
    have eo : one (rotF tags k) d = put d t 0 := by
      unfold one
      rw [ef, f c]
      show put d t (d t - 1) = _
      rw [C.due t mt, if_neg hn]; rfl
    have ek : keysS (putS L t (.int k)) = keysS L ++ [t] := by rw [keys_put, if_neg hn]
    have ell : (putS L t (.int k)).length = L.length + 1 := by unfold putS; rw [if_neg hn, List.length_append]; rfl
    rw [eo]
    refine ⟨?_, ?_, ?_, ?_, ?_, ?_⟩
    · rw [ek, List.nodup_append]
      exact ⟨C.nd, List.pairwise_singleton _ _, fun a ha b hb e => hn (by rw [← List.mem_singleton.mp hb, ← e]; exact ha)⟩
    · intro x hx
      rw [ek] at hx
      rcases List.mem_append.mp hx with h | h
      · exact C.sub x h
      · rw [List.mem_singleton.mp h]; exact mt
    · rw [ell]; omega
    · intro x hx
      rw [ek]
      by_cases e : x = t
      · subst e; rw [put_same, if_pos (by simp)]
      · rw [put_ne e, C.due x hx]
        by_cases q : x ∈ keysS L
        · rw [if_pos q, if_pos (by simp [q])]
        · rw [if_neg q, if_neg (by simp [q, e])]
    · rw [tot_put nb ((hb t).mpr mt), C.tt, C.due t mt, if_neg hn, ell]; omega
    · intro x
      by_cases e : x = t
      · subst e; rw [put_same]; exact Int.le_refl _
      · rw [put_ne e]; exact C.nn x
  · have all : ∀ x ∈ tags, x ∈ keysS L := fun x hx => Classical.byContradiction fun z => c (by
      have := nodup_sub_len (l := x :: keysS L) (m := tags) (List.nodup_cons.mpr ⟨z, C.nd⟩) (fun y hy => by
        rcases List.mem_cons.mp hy with rfl | h
        · exact hx
        · exact C.sub y h)
      rw [List.length_cons] at this; omega)
    have eo : one (rotF tags k) d = d := by
      unfold one
      have : (rotF tags k).find? (opn d) = none := by
        rw [ef, List.find?_eq_none]
        intro x hx
        simp [all x (rot_mem.mp hx)]
      rw [this]
    have ek : keysS (putS L t (.int k)) = keysS L := by rw [keys_put, if_pos (all t mt)]
    have ell : (putS L t (.int k)).length = L.length := by rw [← keys_len, ek, keys_len]
    rw [eo]
    exact ⟨by rw [ek]; exact C.nd, by rw [ek]; exact C.sub, by rw [ell]; omega, by rw [ek]; exact C.due, by rw [ell]; exact C.tt, C.nn⟩
theorem tot_one {bs : List Str} : tot bs (fun _ => 1) = bs.length := by
  unfold tot
  induction bs with
  | nil => rfl
  | cons b bs ih => rw [List.map_cons, List.sum_cons, ih, List.length_cons]; omega
theorem CInv.nil {tags bs : List Str} (h : bs.length = tags.length) : CInv tags bs [] 0 (fun _ => 1) := ⟨List.nodup_nil, fun x h => (nomatch h), by simp, fun x _ => rfl, by rw [tot_one, h]; simp, fun _ => Int.zero_le_ofNat 1⟩
/-! the rests of one row -/
def flE (tags : List Str) (d : Str → Int) (p : Nat → Int) : Nat → (Str → Int) × Int
  | 0 => (d, 0)
  | i + 1 => (put (flE tags d p i).1 (tags.getD i empS) (d (tags.getD i empS) - min2 ((flE tags d p i).2 + p i) (d (tags.getD i empS))), (flE tags d p i).2 + p i - min2 ((flE tags d p i).2 + p i) (d (tags.getD i empS)))
structure FInv (tags bs : List Str) (d : Str → Int) (p : Nat → Int) (i : Nat) : Prop where
  nn : NN (flE tags d p i).1
  pos : 0 ≤ (flE tags d p i).2
  off : ∀ x, x ∈ tags.drop i → (flE tags d p i).1 x = d x
  tt : tot bs d - tot bs (flE tags d p i).1 + (flE tags d p i).2 = ((List.range i).map p).sum
theorem sum_snoc {p : Nat → Int} {i : Nat} : ((List.range (i + 1)).map p).sum = ((List.range i).map p).sum + p i := by
  rw [List.range_succ, List.map_append, List.sum_append]; simp
theorem FInv.all {tags bs : List Str} {d : Str → Int} {p : Nat → Int} (nd : tags.Nodup) (nb : bs.Nodup) (hb : ∀ x ∈ tags, x ∈ bs) (h : NN d) (hp : ∀ i, 0 ≤ p i) : ∀ i, i ≤ tags.length → FInv tags bs d p i
  | 0, _ => ⟨h, Int.le_refl _, fun _ _ => rfl, by show tot bs d - tot bs d + 0 = 0; omega⟩
  | i + 1, hi => by
    have I := FInv.all nd nb hb h hp i (by omega)
    have ht : tags[i]? = some (tags.getD i empS) := by rw [List.getD_eq_getElem?_getD, List.getElem?_eq_getElem (by omega)]; rfl
    have hmem := List.mem_of_getElem? ht
    have hd : tags.drop i = tags.getD i empS :: tags.drop (i + 1) := by
      rw [List.drop_eq_getElem_cons (by omega)]
      congr 1
      exact (getD_of (List.getElem?_eq_getElem (by omega))).symm
    have n1 : (tags.drop i).Nodup := nd.sublist (List.drop_sublist ..)
    have off1 : (flE tags d p i).1 (tags.getD i empS) = d (tags.getD i empS) := I.off _ (by rw [hd]; exact List.mem_cons_self ..)
    generalize et : tags.getD i empS = t at *
    rw [hd, List.nodup_cons] at n1
    have pi := hp i
    have h2 : min2 ((flE tags d p i).2 + p i) (d t) ≤ d t ∧ min2 ((flE tags d p i).2 + p i) (d t) ≤ (flE tags d p i).2 + p i := by unfold min2; split <;> omega
    have ee : flE tags d p (i + 1) = (put (flE tags d p i).1 t (d t - min2 ((flE tags d p i).2 + p i) (d t)), (flE tags d p i).2 + p i - min2 ((flE tags d p i).2 + p i) (d t)) := by rw [← et]; rfl
    refine ⟨?_, ?_, ?_, ?_⟩
    · intro x
      rw [ee]
      show 0 ≤ put _ t _ x
      by_cases e : x = t
      · subst e; rw [put_same]; omega
      · rw [put_ne e]; exact I.nn x
    · rw [ee]
      show 0 ≤ (flE tags d p i).2 + p i - _
      have := I.pos; omega
    · intro x hx
      rw [ee]
      show put _ t _ x = _
      rw [put_ne (fun e => n1.1 (by rw [← e]; exact hx))]
      exact I.off x (by rw [hd]; exact List.mem_cons_of_mem _ hx)
    · rw [ee, sum_snoc, ← I.tt]
      show tot bs d - tot bs (put _ t _) + ((flE tags d p i).2 + p i - _) = _
      rw [tot_put nb (hb t hmem), off1]
      omega
theorem fl_step {tags bs : List Str} {d : Str → Int} {p : Nat → Int} {i : Nat} (I : FInv tags bs d p i) (hp : 0 ≤ p i) (h : NN d) (hi : i < tags.length) : layD (tags.drop i) (flE tags d p i).1 ((flE tags d p i).2 + p i) = layD (tags.drop (i + 1)) (flE tags d p (i + 1)).1 (flE tags d p (i + 1)).2 := by
  have hd : tags.drop i = tags.getD i empS :: tags.drop (i + 1) := by
    rw [List.drop_eq_getElem_cons hi]
    congr 1
    exact (getD_of (List.getElem?_eq_getElem hi)).symm
  have off1 : (flE tags d p i).1 (tags.getD i empS) = d (tags.getD i empS) := I.off _ (by rw [hd]; exact List.mem_cons_self ..)
  generalize et : tags.getD i empS = t at *
  have ee : flE tags d p (i + 1) = (put (flE tags d p i).1 t (d t - min2 ((flE tags d p i).2 + p i) (d t)), (flE tags d p i).2 + p i - min2 ((flE tags d p i).2 + p i) (d t)) := by rw [← et]; rfl
  rw [hd, ee]
  have hn := I.pos
  have hm := min2_nn (i := (flE tags d p i).2 + p i) (j := d t) (by omega) (h t)
  by_cases k : 0 < min2 ((flE tags d p i).2 + p i) ((flE tags d p i).1 t)
  · simp only [layD]
    rw [lay_yes k, off1]
  · simp only [layD]
    rw [lay_no k]
    rw [off1] at k
    have e0 : min2 ((flE tags d p i).2 + p i) (d t) = 0 := by omega
    rw [e0, Int.sub_zero, Int.sub_zero]
    have : put (flE tags d p i).1 t (d t) = (flE tags d p i).1 := by rw [← off1]; exact put_self
    rw [this]
theorem rest_at {b : Bk} {ps : List (Str × Int)} {tags bs : List Str} {d : Str → Int} {p : Nat → Int} (h : NN d) (hp : ∀ i, 0 ≤ p i) (FI : ∀ i, i ≤ tags.length → FInv tags bs d p i) (hl : ps.length ≤ tags.length) (hr : ∀ i, i < ps.length → rowOf b (pay ps i).1 = tags.drop i ∧ (pay ps i).2 = p i) :
    ∀ i, i ≤ ps.length → dAt b ps (List.range i) d = layD (tags.drop i) (flE tags d p i).1 (flE tags d p i).2
  | 0, _ => by
    show d = layD tags d 0
    exact (congrArg (fun q : List (Str × Int) × (Str → Int) × Int => q.2.1) (lay_zero tags d h)).symm
  | i + 1, hi => by
    have ih := rest_at h hp FI hl hr i (by omega)
    have I := FI i (by omega)
    rw [List.range_succ]
    unfold dAt
    rw [List.foldl_append]
    show (stp b ps (dAt b ps (List.range i) d) i).2.1 = _
    unfold stp
    rw [(hr i hi).1, (hr i hi).2, ih]
    show layD (tags.drop i) (layD (tags.drop i) _ _) (p i) = _
    rw [lay_add I.nn I.pos (hp i)]
    exact fl_step I (hp i) h (by omega)
theorem rest_all {b : Bk} {ps : List (Str × Int)} {tags bs : List Str} {d : Str → Int} {p : Nat → Int} (h : NN d) (hp : ∀ i, 0 ≤ p i) (FI : ∀ i, i ≤ tags.length → FInv tags bs d p i) (hl : ps.length ≤ tags.length) (hr : ∀ i, i < ps.length → rowOf b (pay ps i).1 = tags.drop i ∧ (pay ps i).2 = p i) (hz : ∀ i, ps.length ≤ i → p i = 0) :
    dAt b ps (List.range ps.length) d = (flE tags d p tags.length).1 := by
  have gen : ∀ j, ps.length + j ≤ tags.length → dAt b ps (List.range ps.length) d = layD (tags.drop (ps.length + j)) (flE tags d p (ps.length + j)).1 (flE tags d p (ps.length + j)).2 := by
    intro j
    induction j with
    | zero => intro _; exact rest_at h hp FI hl hr _ (Nat.le_refl _)
    | succ j ih =>
      intro hj
      rw [ih (by omega), show ps.length + (j + 1) = ps.length + j + 1 by omega, ← fl_step (FI _ (by omega)) (hp _) h (by omega), hz _ (by omega), Int.add_zero]
  have := gen (tags.length - ps.length) (by omega)
  rw [show ps.length + (tags.length - ps.length) = tags.length by omega, List.drop_length] at this
  exact this
end Ol
set_option Elab.async false
set_option linter.all false
set_option maxRecDepth 100000
set_option maxHeartbeats 4000000
/-! OlR2: ones round a circle. -/
namespace Ol
open PySem L2
open Evl (Ex Ex.refl Ex.trans Ex.new ex_l ex_t fresh_back sz_of sz_lt)
abbrev N32 : List Str := ["_law_tags_here", "_law_starts_so", "_law_many_so", "_law_k", "_law_host_here", "_law_dues_so", "_law_taken_so", "_law_j", "_law_pays_so", "_law_goal", "_law_own"]
def rotG (tags : List Str) : PyData → Option PyData
  | .int k => some (rowD (rotF tags k.toNat))
  | _ => none
def numG (f : Str → Int) : PyData → Option PyData
  | .str x => some (numP (x, f x))
  | _ => none
def payG (f : Nat → Int) : PyData → Option PyData
  | .int k => some (numP (letters.getD k.toNat empS, f k.toNat))
  | _ => none
def d_circle (ds : List PyData) (r : Sd) : Prop := ∃ (tags : List Str) (ss : List Nat), Tags tags ∧ ss.length ≤ 4 ∧ (∀ k ∈ ss, k < tags.length) ∧ ds = [.list (tags.map .str), .tuple (ss.map fun (k : Nat) => .int k)] ∧ r = .d (.bool true)
theorem num_map {f : Str → Int} : ∀ l : List Str, (l.map PyData.str).filterMap (numG f) = dueD l f
  | [] => rfl
  | a :: l => congrArg (numP (a, f a) :: ·) (num_map l)
theorem pay_map {f : Nat → Int} : ∀ l : List Nat, (l.map fun (k : Nat) => PyData.int k).filterMap (payG f) = (l.map fun k => (letters.getD k empS, f k)).map numP
  | [] => rfl
  | a :: l => congrArg (numP (letters.getD a empS, f a) :: ·) (pay_map l)
theorem Et_c {X : Cx} {e : Expr} {env env' : List Sd} {x y : Bool} (h : Et X e env env' x) (q : x = y) : Et X e env env' y := by rw [← q]; exact h
theorem letter_get {k : Nat} (h : k < 6) : letters[k]? = some (letters.getD k empS) := by
  rw [List.getD_eq_getElem?_getD, List.getElem?_eq_getElem (by show k < 6; exact h)]; rfl
theorem num_of_get {ss : List Nat} {i : Nat} {d : PyData} (h : (ss.map fun (k : Nat) => PyData.int k)[i]? = some d) : ∃ k, ss[i]? = some k ∧ d = .int (k : Nat) := by
  rw [List.getElem?_map] at h
  cases q : ss[i]? with
  | none => rw [q] at h; cases h
  | some c => rw [q] at h; cases h; exact ⟨c, rfl, rfl⟩
theorem str_of_mem {l : List Str} {d : PyData} (h : d ∈ l.map PyData.str) : ∃ x, x ∈ l ∧ d = .str x := by
  obtain ⟨x, hx, rfl⟩ := List.mem_map.mp h
  exact ⟨x, hx, rfl⟩
theorem str_at {l : List Str} {i : Nat} (h : i < l.length) : atI (l.map PyData.str) (i : Int) = some (.str (l.getD i empS)) := by
  refine atI_nat ?_
  rw [List.getElem?_map, List.getD_eq_getElem?_getD, List.getElem?_eq_getElem h]; rfl
theorem ord_range {n : Nat} : irange 0 n = (List.range n).map fun (i : Nat) => PyData.int i := by
  unfold irange
  exact List.map_congr_left fun i _ => by rw [Int.zero_add]
theorem ones_sum : ∀ ss : List Nat, ((ss.map fun k => (letters.getD k empS, (1 : Int))).map (·.2)).sum = (ss.length : Int)
  | [] => rfl
  | a :: l => by rw [List.map_cons, List.map_cons, List.sum_cons, ones_sum l, List.length_cons]; show (1 : Int) + _ = _; omega
section
variable {P : Program} {w : World} {K : PySem.W.Frag} {mg : Str → Option Value} {base : Heap}
theorem sc32 : FnScope N32 ["_law_tags_here", "_law_starts_so"] (defScope (topS 32)) := ⟨rfl, rfl, rfl, by decide +kernel, rfl, by decide +kernel, by decide +kernel⟩
theorem ok_circle {f : Addr} {fd : FuncData} (Fn : Fun K "_law_circle_right" "_law_circle_right" (topS 32) f fd) (B : Bl mg) (Fo : Dn P w K mg base "_law_folk" ["_law_tags_here", "_law_lists_so"] 1 (RelD d_folk)) (En : Dn P w K mg base "ends" ["book", "dues", "payments"] 6 (RelD d_ends))
    (Sb : Dn P w K mg base "sum_back" ["book", "dues", "payments", "order"] 8 (RelD d_sum_back)) :
    FnOk P w K mg base CX0 9 f fd ["_law_tags_here", "_law_starts_so"] (spD K (RelD d_circle)) := by
  refine fn_okD Fn sc32 (fun ds r h => by obtain ⟨_, _, _, _, _, rfl, _⟩ := h; rfl) fun cdv A outer s H E hr ds r h => ?_
  obtain ⟨tags, ss, T, hs4, hss, rfl, rfl⟩ := h
  have hu64 := hr.units
  have Ts := T.srt
  have hle := T.le
  have hpos := T.pos
  let lists : List (List Str) := (List.range tags.length).map (rotF tags)
  let bk : Bk := folkB tags lists
  let ps : List (Str × Int) := ss.map fun k => (letters.getD k empS, 1)
  have hll : lists.length = tags.length := by show ((List.range tags.length).map (rotF tags)).length = _; rw [List.length_map, List.length_range]
  have hl3 : ∀ l ∈ lists, l.length ≤ 100 := fun l hl => by
    obtain ⟨k, hk, rfl⟩ := List.mem_map.mp hl
    rw [rot_len (Nat.le_of_lt (List.mem_range.mp hk))]; omega
  have lget : ∀ k, k < tags.length → lists[k]? = some (rotF tags k) := fun k hk => by
    show ((List.range tags.length).map (rotF tags))[k]? = _
    rw [List.getElem?_map, List.getElem?_range hk]; rfl
  have rws : ∀ k, k < tags.length → rowOf bk (letters.getD k empS) = rotF tags k := fun k hk => folk_row (k := k) hl3 (letter_get (by omega)) (lget k hk)
  have hpl : ps.length = ss.length := List.length_map ..
  have pget : ∀ i k, ss[i]? = some k → pay ps i = (letters.getD k empS, 1) := fun i k h => by
    unfold pay
    rw [List.getD_eq_getElem?_getD]
    show ((ss.map fun k => (letters.getD k empS, (1 : Int)))[i]?).getD _ = _
    rw [List.getElem?_map, h]; rfl
  have rows : ∀ i, i < ps.length → ∃ k, ss[i]? = some k ∧ k < tags.length ∧ rowOf bk (pay ps i).1 = rotF tags k ∧ (pay ps i).2 = 1 := fun i hi => by
    rw [hpl] at hi
    have h := List.getElem?_eq_getElem hi
    have hk := hss _ (List.mem_of_getElem? h)
    exact ⟨_, h, hk, by rw [pget _ _ h]; exact rws _ hk, by rw [pget _ _ h]⟩
  have Si : Sit bk (srtS tags) ps := folk_sit T hl3 (fun l hl x hx => by
    obtain ⟨k, hk, rfl⟩ := List.mem_map.mp hl
    exact rot_mem.mp hx) (by omega) (fun q hq => by
      obtain ⟨k, hk, rfl⟩ := List.mem_map.mp hq
      have := hss k hk
      rw [hll]
      refine List.mem_of_getElem? (i := k) ?_
      rw [List.getElem?_take, if_pos this]
      exact letter_get (by omega))
  have Ag : Agree bk ps := ⟨fun i j hi hj => by
    obtain ⟨k, _, _, e1, _⟩ := rows i hi
    obtain ⟨l, _, _, e2, _⟩ := rows j hj
    rw [e1, e2]; exact rot_comp' T.nd k l, fun i hi => by
    obtain ⟨k, _, _, _, e⟩ := rows i hi
    rw [e]; decide⟩
  have nn1 : NN (fun _ : Str => (1 : Int)) := fun _ => by show (0 : Int) ≤ 1; decide
  have hb : ∀ x, x ∈ srtS tags ↔ x ∈ tags := Ts.2.2.2
  have CI : ∀ i, i ≤ ss.length → CInv tags (srtS tags) (cir tags (ss.take i)) i (dAt bk ps (List.range i) fun _ => 1) := by
    intro i
    induction i with
    | zero => intro _; exact CInv.nil Ts.2.2.1
    | succ i ih =>
      intro hi
      obtain ⟨k, hk, hkl, e1, e2⟩ := rows i (by omega)
      have := (ih (by omega)).step T.nd Ts.1 hb hkl
      rw [(take_cut hk).2, cir_snoc, List.range_succ]
      unfold dAt
      rw [List.foldl_append]
      show CInv _ _ _ _ (stp bk ps (dAt bk ps (List.range i) fun _ => 1) i).2.1
      unfold stp
      rw [e1, e2]
      exact this
  have CF := CI ss.length (Nat.le_refl _)
  rw [List.take_length] at CF
  rw [← hpl] at CF
  have O : Ord ps (List.range ps.length) := ⟨List.nodup_range, fun i hi => List.mem_range.mp hi, fun i hi => List.mem_range.mpr hi, by rw [List.length_range]; omega⟩
  have gs : (gvs bk ps (fun _ => 1) (List.range ps.length)).sum = max2 0 ((ss.length : Int) - (tags.length : Int)) := by
    rw [gvs_sum Si O, CF.tt, tot_one, Ts.2.2.1]
    have e1 : (ps.map (·.2)).sum = (ss.length : Int) := ones_sum ss
    have e2 := CF.len
    rw [e1]
    unfold max2
    split <;> omega
  generalize hD : dAt bk ps (List.range ps.length) (fun _ => 1) = D at CF
  have sob : ∀ q ∈ srtS tags, PyData.strOk q = true := fun q hq => T.so q ((hb q).mp hq)
  have shE := (Shp.due (d := D) sob).one
  have hgo : dueD (srtS tags) (fun x => b2n (!decide (x ∈ keysS (cir tags ss)))) = dueD (srtS tags) D := by
    unfold dueD
    refine List.map_congr_left fun x hx => ?_
    rw [CF.due x ((hb x).mp hx)]
    by_cases q : x ∈ keysS (cir tags ss)
    · rw [if_pos q]; show numP (x, b2n (!decide _)) = _; rw [decide_eq_true q]; rfl
    · rw [if_neg q]; show numP (x, b2n (!decide _)) = _; rw [decide_eq_false q]; rfl
  show Fin _ _ [.d (.list (tags.map .str)), .d (.tuple (ss.map fun (k : Nat) => .int k)), .u, .u, .u, .u, .u, .u, .u, .u, .u] [.u, .u, .u, .u, .u, .u, .u, .u, .u, .u, .u] _
  refine fin_cons (r1_set 2 (Ev.dc (d2 := .int (tags.length : Int)) (ev_lenL (ds := tags.map .str) B.len (ed1 (ev 0))) (by rw [List.length_map])) sc32.nd) ?_
  have brow : ∀ k, k < tags.length → (bk.rows.map payD)[k]? = some (.tuple [.str (letters.getD k empS), rowD (rotF tags k)]) := fun k hk => by
    rw [List.getElem?_map]
    show ((letters.zip lists)[k]?).map payD = _
    have e : (letters.zip lists)[k]? = some (letters.getD k empS, rotF tags k) := List.getElem?_zip_eq_some.mpr ⟨letter_get (by omega), lget k hk⟩
    rw [e]; rfl
  have c2 : ∀ {lo hi lo' hi' : Option Int}, (cutD (tags.map PyData.str) lo hi).length + (cutD (tags.map PyData.str) lo' hi').length ≤ 100000 := fun {lo hi lo' hi'} => by
    have h1 := cutD_len (tags.map PyData.str) lo hi
    have h2 := cutD_len (tags.map PyData.str) lo' hi'
    rw [List.length_map] at h1 h2
    omega
  refine fin_cons (r1_set 4 (r := .d bk.d) (ev_f Fo hr (by decide) (el_cons (ev 0) (el1 (Ev.dc (d2 := .list (lists.map rowD)) (.frz (ev_lcq _ [("_law_k", 3)] (rotG tags) sc32.nd (ei_range1 (n := (tags.length : Int)) B.range (ed1 (ev 2)) (by omega) (by omega)) (blkOk_by (N := N32) (sc := defScope (topS 32)) (by decide +kernel)) (by rw [irange_len]; omega) (fun x hx => ?_) ⟨rfl, trivial⟩)) (congrArg PyData.list (rng_map (h := rotF tags) fun i => ?_))))) ⟨[.list (tags.map .str), .list (lists.map rowD)], rfl, rfl, tags, lists, rfl, by omega, rfl⟩) sc32.nd) ?_
  · obtain ⟨i, hi⟩ := List.mem_iff_getElem?.mp hx
    obtain ⟨hlt, rfl⟩ := irange_get hi
    rw [Int.zero_add]
    exact lct_one 3 rfl (fun _ _ _ _ _ => tg_name 3 sc32.nd) fun _ _ _ _ _ => Ev.dc (ev_tupL B.tuple (ed1 (.frz (ev_catl c2 (ev_slL (ds := tags.map .str) (ev 0) (eo_some (ev 3)) eo_none) (ev_slL (ds := tags.map .str) (ev 0) eo_none (eo_some (ev 3))))))) (by
      rw [cutD_from, cutD_to, ← List.map_drop, ← List.map_take, ← List.map_append]; rfl)
  · show some (rowD (rotF tags ((0 : Int) + (i : Nat)).toNat)) = _
    rw [show ((0 : Int) + (i : Nat)).toNat = i by omega]
  show Fin _ _ [.d (.list (tags.map .str)), .d (.tuple (ss.map fun (k : Nat) => .int k)), .d (.int (tags.length : Int)), .u, .d bk.d, .u, .u, .u, .u, .u, .u] _ _
  refine fin_cons (r1_tup2 5 6 (r1 := .d (dueT (srtS tags) fun _ => 1)) (el_cons (Ev.dc (ev_tupL B.tuple (ed1 (.frz (ev_lcq _ [("_law_own", 10)] (numG fun _ => 1) sc32.nd (ei_tup (ds := (srtS tags).map .str) (ev_ixt (i := 0) (ds := [rowD bk.names, .tuple (bk.rows.map payD)]) rfl (ev 4) ev_int)) (blkOk_by (N := N32) (sc := defScope (topS 32)) (by decide +kernel)) (by rw [List.length_map, Ts.2.2.1]; omega) (fun x hx => ?_) ⟨rfl, trivial⟩)))) (congrArg PyData.tuple (num_map _))) (el1 ev_dnew)) sc32.nd) ?_
  · obtain ⟨y, hy, rfl⟩ := str_of_mem hx
    exact lct_one 10 rfl (fun _ _ _ _ _ => tg_name 10 sc32.nd) fun _ _ _ _ _ => ev_tup (ed2 (ev 10) (ev_int (i := 1)))
  let envs : Nat → List Sd := fun i => [.d (.list (tags.map .str)), .d (.tuple (ss.map fun (k : Nat) => .int k)), .d (.int (tags.length : Int)), .u, .d bk.d, .d (dueT (srtS tags) fun _ => 1), .o none (Kf K (kvT (cir tags (ss.take i)))), .u, .u, .u, .u]
  refine fin_cons (r1_for (ds := ss.map fun (k : Nat) => .int k) [3] envs PassesOwn.never (ei_tup (ev 1)) (by exact ⟨rfl, rfl, rfl, rfl, rfl, rfl, trivial⟩) fun i dd hdd => ?_) ?_
  · obtain ⟨k, hk, rfl⟩ := num_of_get hdd
    have hkl := hss k (List.mem_of_getElem? hk)
    have hi : i < ss.length := (List.getElem?_eq_some_iff.mp hk).1
    have C := CI i (Nat.le_of_lt hi)
    have hsn : cir tags (ss.take (i + 1)) = cirS tags (cir tags (ss.take i)) k := by rw [(take_cut hk).2, cir_snoc]
    generalize hL : cir tags (ss.take i) = L at C hsn
    obtain ⟨SO, _, mt, _⟩ := steps_ok T.nd hkl C.nd C.sub
    have hLl := C.len
    have kl := keys_len (L := L)
    generalize hn : stepsC tags (keysS L) k = n at SO
    refine ⟨_, tg_name 3 sc32.nd, ?_⟩
    show Rn _ _ [.d (.list (tags.map .str)), .d (.tuple (ss.map fun (k : Nat) => .int k)), .d (.int (tags.length : Int)), .d (.int (k : Nat)), .d bk.d, .d (dueT (srtS tags) fun _ => 1), .o none (Kf K (kvT (cir tags (ss.take i)))), .u, .u, .u, .u] _
    rw [hL]
    refine rn_cons (r1_set 7 (Ev.dc (d2 := .int (((k + 0) % tags.length : Nat) : Int)) (ev 3) (by rw [Nat.add_zero, Nat.mod_eq_of_lt hkl])) sc32.nd) ?_
    let envs2 : Nat → List Sd := fun j => [.d (.list (tags.map .str)), .d (.tuple (ss.map fun (k : Nat) => .int k)), .d (.int (tags.length : Int)), .d (.int (k : Nat)), .d bk.d, .d (dueT (srtS tags) fun _ => 1), .o none (Kf K (kvT L)), .d (.int (((k + j) % tags.length : Nat) : Int)), .u, .u, .u]
    have hi64 := hu_of hr
    refine rn_cons (r1_while n envs2 PassesOwn.never (by exact ⟨rfl, rfl, rfl, rfl, rfl, rfl, rfl, rfl, trivial⟩) (fun j hj => ⟨Et_c (Ew.t (ew_and (et_din 6 hi64 (k := Sum.inr (tags.getD ((k + j) % tags.length) empS)) (ev_ixl (str_at (Nat.mod_lt _ hpos)) (ev 0) (ev 7))) (fun _ => ew_one (et_lt (ev_dlen 6 B.len) (ev 2)) fun t h => pw_and1 h) fun _ => rfl)) ?_,
      rn_cons (r1_set 7 (ev_mod (ev_intI B.int (ed1 (ev_add (ev 7) (ev_int (i := 1))))) (ev 2) (by omega)) sc32.nd) (rn_nil.wk ?_)⟩) (Et_c (Ew.t (ew_and (et_din 6 hi64 (k := Sum.inr (tags.getD ((k + n) % tags.length) empS)) (ev_ixl (str_at (Nat.mod_lt _ hpos)) (ev 0) (ev 7))) (fun _ => ew_one (et_lt (ev_dlen 6 B.len) (ev 2)) fun t h => pw_and1 h) fun _ => rfl)) ?_)) ?_
    · rw [look_S, decide_eq_true (SO.bef j hj)]
      have hkv : (kvT L).length = L.length := List.length_map ..
      rcases SO.full with z | z
      · omega
      · rw [kl] at z
        rw [hkv, decide_eq_true (show (L.length : Int) < (tags.length : Int) by omega)]; rfl
    · show Wk [_, _, _, _, _, _, _, .d (.int (((((k + j) % tags.length : Nat) : Int) + 1) % (tags.length : Int))), _, _, _] (envs2 (j + 1))
      have e : ((((k + j) % tags.length : Nat) : Int) + 1) % (tags.length : Int) = (((k + (j + 1)) % tags.length : Nat) : Int) := by
        have : (((k + j) % tags.length : Nat) : Int) + 1 = (((k + j) % tags.length + 1 : Nat) : Int) := by omega
        rw [this, ← Int.natCast_emod, Nat.mod_add_mod]; rfl
      rw [e]
      exact ⟨rfl, rfl, rfl, rfl, rfl, rfl, rfl, rfl, trivial⟩
    · rw [look_S]
      have hkv : (kvT L).length = L.length := List.length_map ..
      rcases SO.stop with z | z
      · rw [decide_eq_false z, Bool.false_and]
      · rw [kl] at z
        rw [hkv, decide_eq_false (show ¬ (L.length : Int) < (tags.length : Int) by omega), Bool.and_false]
    · refine rn_cons (r1_dput 6 (k := Sum.inr (nxtT tags (keysS L) k)) hi64 (ev 3) (ev_ixl (Eq.trans (str_at (i := (k + n) % tags.length) (Nat.mod_lt _ hpos)) (by unfold nxtT; rw [hn]; rfl)) (ev 0) (ev 7)) rfl rfl (by unfold kvT; rw [List.length_map]; omega)) ?_
      refine rn_nil.wk ?_
      show Wk [_, _, _, _, _, _, .o none (Kf K (putD (kvT L) (Sum.inr (nxtT tags (keysS L) k)) (.int k))), _, _, _, _] [.d (.list (tags.map .str)), .d (.tuple (ss.map fun (k : Nat) => .int k)), .d (.int (tags.length : Int)), .u, .d bk.d, .d (dueT (srtS tags) fun _ => 1), .o none (Kf K (kvT (cir tags (ss.take (i + 1))))), .u, .u, .u, .u]
      rw [putD_S, hsn]
      exact ⟨rfl, rfl, rfl, rfl, rfl, rfl, trivial⟩
  · have hlen : (ss.map fun (k : Nat) => PyData.int k).length = ss.length := List.length_map ..
    rw [hlen]
    show Fin _ _ [.d (.list (tags.map .str)), .d (.tuple (ss.map fun (k : Nat) => .int k)), .d (.int (tags.length : Int)), .u, .d bk.d, .d (dueT (srtS tags) fun _ => 1), .o none (Kf K (kvT (cir tags (ss.take ss.length)))), .u, .u, .u, .u] _ _
    rw [List.take_length]
    refine fin_cons (r1_set 8 (Ev.dc (d2 := paysD ps) (ev_tupL B.tuple (ed1 (.frz (ev_lcq _ [("_law_k", 3)] (payG fun _ => 1) sc32.nd (ei_tup (ds := ss.map fun (k : Nat) => .int k) (ev 1)) (blkOk_by (N := N32) (sc := defScope (topS 32)) (by decide +kernel)) (by rw [List.length_map]; omega) (fun x hx => ?_) ⟨rfl, trivial⟩)))) (congrArg PyData.tuple (pay_map ss))) sc32.nd) ?_
    · obtain ⟨i, hi⟩ := List.mem_iff_getElem?.mp hx
      obtain ⟨k, hk, rfl⟩ := num_of_get hi
      have hkl := hss k (List.mem_of_getElem? hk)
      exact lct_one 3 rfl (fun _ _ _ _ _ => tg_name 3 sc32.nd) fun _ _ _ _ _ => ev_tup (ed2 (ev_ixt (i := 0) (ds := [.str (letters.getD k empS), rowD (rotF tags k)]) rfl (ev_ixt (ds := bk.rows.map payD) (atI_nat (brow k hkl)) (ev_ixt (i := 1) (ds := [rowD bk.names, .tuple (bk.rows.map payD)]) rfl (ev 4) ev_int) (ev 3)) ev_int) (ev_int (i := 1)))
    refine fin_cons (r1_set 9 (Ev.dc (d2 := dueT (srtS tags) D) (ev_tupL B.tuple (ed1 (.frz (ev_lcq _ [("_law_own", 10)] (numG fun x => b2n (!decide (x ∈ keysS (cir tags ss)))) sc32.nd (ei_tup (ds := (srtS tags).map .str) (ev_ixt (i := 0) (ds := [rowD bk.names, .tuple (bk.rows.map payD)]) rfl (ev 4) ev_int)) (blkOk_by (N := N32) (sc := defScope (topS 32)) (by decide +kernel)) (by rw [List.length_map, Ts.2.2.1]; omega) (fun x hx => ?_) ⟨rfl, trivial⟩)))) (congrArg PyData.tuple ((num_map _).trans hgo))) sc32.nd) ?_
    · obtain ⟨y, hy, rfl⟩ := str_of_mem hx
      exact lct_one 10 rfl (fun _ _ _ _ _ => tg_name 10 sc32.nd) fun _ _ _ _ _ => ev_tup (ed2 (ev 10) (ev_intB B.int (ed1 (Ev.dc (ev_dnin 6 (k := Sum.inr y) (kvs := kvT (cir tags ss)) (hu_of hr) (ev 10)) (by rw [look_S])))))
    have hEn : d_ends [bk.d, dueT (srtS tags) (fun _ => 1), paysD ps] (.d (.list [dueT (srtS tags) D])) := by
      have := d_ends_mk Si (by omega) Ag nn1
      rw [hD] at this
      exact this
    refine fin_ifN (et_ne (d2 := .list [dueT (srtS tags) D]) (ev_f En hr (by decide) (el_cons (ev 4) (el_cons (ev 5) (el1 (ev 8)))) ⟨[bk.d, dueT (srtS tags) fun _ => 1, paysD ps], rfl, rfl, hEn⟩) (.frz (ev_lst (ed1 (ev 9)))) hu64 shE.sh shE.sh) (by rw [shE.refl]; rfl) ?_
    refine fin_ret (Ev.dc (ev_eq (ev_f Sb hr (Nat.le_refl _) (el_cons (ev 4) (el_cons (ev 5) (el_cons (ev 8) (el1 (Ev.dc (d2 := ordD (List.range ps.length)) (ev_tupRg (n := ps.length) (by omega) B.tuple B.range (Ev.dc (ev_lenT (ds := ps.map numP) B.len (ed1 (ev 8))) (by rw [List.length_map]))) (congrArg PyData.tuple ord_range)))))) ⟨[bk.d, dueT (srtS tags) fun _ => 1, paysD ps, ordD (List.range ps.length)], rfl, rfl, bk, srtS tags, ps, _, _, rfl, Si, O, rfl⟩)
      (ev_max B.max (ed2 (ev_int (i := 0)) (ev_sub (Ev.dc (d2 := .int (ss.length : Int)) (ev_lenT (ds := ss.map fun (k : Nat) => .int k) B.len (ed1 (ev 1))) (by rw [List.length_map])) (ev 2)))) hu64 rfl rfl) ?_)
    rw [gs, (Shp.int _).refl]
end
end Ol
set_option Elab.async false
set_option linter.all false
set_option maxRecDepth 100000
set_option maxHeartbeats 4000000
/-! OlR3: rests of one row; a list backwards beside it. -/
namespace Ol
open PySem L2
open Evl (Ex Ex.refl Ex.trans Ex.new ex_l ex_t fresh_back sz_of sz_lt)
abbrev N33 : List Str := ["_law_tags_here", "_law_sums_so", "_law_purses_so", "_law_k", "_law_host_here", "_law_dues_so", "_law_table_so", "_law_pays_so", "_law_flow_so", "_law_here", "_law_both"]
def restG (tags : List Str) : PyData → Option PyData
  | .int k => some (rowD (tags.drop k.toNat))
  | _ => none
def d_rest (ds : List PyData) (r : Sd) : Prop := ∃ (tags : List Str) (sums purses : List Int), Fam tags sums purses ∧ ds = [.list (tags.map .str), .list (sums.map .int), .list (purses.map .int)] ∧ r = .d (.bool true)
theorem drop_comp {tags : List Str} (nd : tags.Nodup) {i j : Nat} (h : i ≤ j) : Comp (tags.drop i) (tags.drop j) := by
  have e1 : (tags.drop i).take (j - i) ++ tags.drop j = tags.drop i := by
    have := List.take_append_drop (j - i) (tags.drop i)
    rw [List.drop_drop, show i + (j - i) = j by omega] at this
    exact this
  have n1 : (tags.drop i).Nodup := nd.sublist (List.drop_sublist ..)
  rw [← e1, List.nodup_append] at n1
  rw [← e1]
  exact comp_suffix fun x h1 h2 => n1.2.2 x h1 x h2 rfl
theorem drop_comp' {tags : List Str} (nd : tags.Nodup) (i j : Nat) : Comp (tags.drop i) (tags.drop j) := by
  rcases Nat.le_total i j with h | h
  · exact drop_comp nd h
  · exact (drop_comp nd h).symm
theorem both_comp {tags : List Str} (nd : tags.Nodup) {x y : List Str} (hx : x = tags ∨ x = tags.reverse ∨ x = []) (hy : y = tags ∨ y = tags.reverse ∨ y = []) : Comp x y := by
  rcases hx with rfl | rfl | rfl <;> rcases hy with rfl | rfl | rfl <;> first | exact Comp.refl _ | exact comp_nil _ | exact (comp_nil _).symm | exact comp_rev nd | exact (comp_rev nd).symm
theorem rng_get {n i : Nat} (h : i < n) {f : Nat → Str × Int} : ((List.range n).map f)[i]? = some (f i) := by rw [List.getElem?_map, List.getElem?_range h]; rfl
section
variable {P : Program} {w : World} {K : PySem.W.Frag} {mg : Str → Option Value} {base : Heap}
theorem sc33 : FnScope N33 ["_law_tags_here", "_law_sums_so", "_law_purses_so"] (defScope (topS 33)) := ⟨rfl, rfl, rfl, by decide +kernel, rfl, by decide +kernel, by decide +kernel⟩
theorem ok_rest {f : Addr} {fd : FuncData} (Fn : Fun K "_law_rest_right" "_law_rest_right" (topS 33) f fd) (B : Bl mg) (Fo : Dn P w K mg base "_law_folk" ["_law_tags_here", "_law_lists_so"] 1 (RelD d_folk)) (En : Dn P w K mg base "ends" ["book", "dues", "payments"] 6 (RelD d_ends))
    (Sb : Dn P w K mg base "sum_back" ["book", "dues", "payments", "order"] 8 (RelD d_sum_back)) (Op : Dn P w K mg base "first_open" ["book", "dues", "payer"] 7 (RelD d_first_open)) (Gb : Dn P w K mg base "given_back" ["book", "dues", "payments", "order"] 7 (RelD d_given_back)) :
    FnOk P w K mg base CX0 9 f fd ["_law_tags_here", "_law_sums_so", "_law_purses_so"] (spD K (RelD d_rest)) := by
  refine fn_okD Fn sc33 (fun ds r h => by obtain ⟨_, _, _, _, rfl, _⟩ := h; rfl) fun cdv A outer s H E hr ds r h => ?_
  obtain ⟨tags, sums, purses, F, rfl, rfl⟩ := h
  obtain ⟨a, b', c, d', rfl, ha, hb', hc, hd⟩ := F.four
  have hu64 := hr.units
  have hu1 := hu_of hr
  have T := F.t
  have Ts := T.srt
  have hle := T.le
  have hpos := T.pos
  have hb : ∀ x, x ∈ srtS tags ↔ x ∈ tags := Ts.2.2.2
  have nn0 : NN (dOf tags sums) := dOf_nn F.sn
  have hsl := F.sl
  have hdue := dues_eq F
  have hsum : sums = tags.map (dOf tags sums) := F.sums.symm
  generalize hd0 : dOf tags sums = d0 at nn0 hdue hsum
  generalize hm : min 4 tags.length = m
  have hm4 : m ≤ 4 := by omega
  have hmt : m ≤ tags.length := by omega
  let pu : Nat → Int := fun k => [a, b', c, d'].getD k 0
  have pun : ∀ k, 0 ≤ pu k := fun k => by
    match k with
    | 0 => exact ha
    | 1 => exact hb'
    | 2 => exact hc
    | 3 => exact hd
    | _ + 4 => exact Int.le_refl _
  let p : Nat → Int := fun i => if i < m then pu i else 0
  have pn : ∀ i, 0 ≤ p i := fun i => by
    show 0 ≤ if i < m then pu i else 0
    split
    · exact pun i
    · exact Int.le_refl _
  let lists : List (List Str) := (List.range tags.length).map tags.drop
  let bk : Bk := folkB tags lists
  let ps : List (Str × Int) := (List.range m).map fun k => (letters.getD k empS, pu k)
  have hll : lists.length = tags.length := by show ((List.range tags.length).map tags.drop).length = _; rw [List.length_map, List.length_range]
  have hl3 : ∀ l ∈ lists, l.length ≤ 100 := fun l hl => by
    obtain ⟨k, hk, rfl⟩ := List.mem_map.mp hl
    rw [List.length_drop]; omega
  have lget : ∀ k, k < tags.length → lists[k]? = some (tags.drop k) := fun k hk => by
    show ((List.range tags.length).map tags.drop)[k]? = _
    rw [List.getElem?_map, List.getElem?_range hk]; rfl
  have rws : ∀ k, k < tags.length → rowOf bk (letters.getD k empS) = tags.drop k := fun k hk => folk_row (k := k) hl3 (letter_get (by omega)) (lget k hk)
  have hpl : ps.length = m := by show ((List.range m).map _).length = m; rw [List.length_map, List.length_range]
  have pget : ∀ i, i < m → pay ps i = (letters.getD i empS, pu i) := fun i h => by
    unfold pay
    rw [List.getD_eq_getElem?_getD]
    show (((List.range m).map fun k => (letters.getD k empS, pu k))[i]?).getD _ = _
    rw [rng_get h]; rfl
  have rows : ∀ i, i < ps.length → rowOf bk (pay ps i).1 = tags.drop i ∧ (pay ps i).2 = p i := fun i hi => by
    rw [hpl] at hi
    rw [pget i hi]
    exact ⟨rws i (by omega), by show pu i = if i < m then pu i else 0; rw [if_pos hi]⟩
  have Si : Sit bk (srtS tags) ps := folk_sit T hl3 (fun l hl x hx => by
    obtain ⟨k, hk, rfl⟩ := List.mem_map.mp hl
    exact List.mem_of_mem_drop hx) (by omega) (fun q hq => by
      obtain ⟨k, hk, rfl⟩ := List.mem_map.mp hq
      have := List.mem_range.mp hk
      rw [hll]
      refine List.mem_of_getElem? (i := k) ?_
      rw [List.getElem?_take, if_pos (by omega)]
      exact letter_get (by omega))
  have Ag : Agree bk ps := ⟨fun i j hi hj => by
    rw [(rows i hi).1, (rows j hj).1]; exact drop_comp' T.nd i j, fun i hi => by rw [(rows i hi).2]; exact pn i⟩
  have FI := FInv.all (d := d0) (p := p) (bs := srtS tags) T.nd Ts.1 (fun x hx => (hb x).mpr hx) nn0 pn
  have hAll := rest_all nn0 pn FI (by omega) rows (fun i hi => by show (if i < m then pu i else 0) = 0; rw [if_neg (by omega)])
  have O : Ord ps (List.range ps.length) := ⟨List.nodup_range, fun i hi => List.mem_range.mp hi, fun i hi => List.mem_range.mpr hi, by rw [List.length_range]; omega⟩
  have gs : (gvs bk ps d0 (List.range ps.length)).sum = (flE tags d0 p tags.length).2 := by
    rw [gvs_sum Si O, hAll]
    have h1 := (FI tags.length (Nat.le_refl _)).tt
    have h2 : (ps.map (·.2)).sum = ((List.range tags.length).map p).sum := by
      have e1 : ps.map (·.2) = (List.range m).map p := by
        show ((List.range m).map fun k => (letters.getD k empS, pu k)).map (·.2) = _
        rw [List.map_map]
        exact List.map_congr_left fun k hk => by show pu k = if k < m then pu k else 0; rw [if_pos (List.mem_range.mp hk)]
      rw [e1]
      have gen : ∀ j, ((List.range (m + j)).map p).sum = ((List.range m).map p).sum := by
        intro j
        induction j with
        | zero => rfl
        | succ j ih =>
          rw [← Nat.add_assoc, sum_snoc, ih]
          show _ + (if m + j < m then pu (m + j) else 0) = _
          rw [if_neg (by omega), Int.add_zero]
      have := gen (tags.length - m)
      rw [show m + (tags.length - m) = tags.length by omega] at this
      exact this.symm
    omega
  generalize hD : (flE tags d0 p tags.length).1 = D at hAll
  have sob : ∀ q ∈ srtS tags, PyData.strOk q = true := fun q hq => T.so q ((hb q).mp hq)
  have shE := (Shp.due (d := D) sob).one
  have brow : ∀ k, k < tags.length → (bk.rows.map payD)[k]? = some (.tuple [.str (letters.getD k empS), rowD (tags.drop k)]) := fun k hk => by
    rw [List.getElem?_map]
    show ((letters.zip lists)[k]?).map payD = _
    have e : (letters.zip lists)[k]? = some (letters.getD k empS, tags.drop k) := List.getElem?_zip_eq_some.mpr ⟨letter_get (by omega), lget k hk⟩
    rw [e]; rfl
  have hsat : ∀ i, i < tags.length → atI (sums.map PyData.int) (i : Int) = some (.int (d0 (tags.getD i empS))) := fun i hi => by
    refine atI_nat ?_
    rw [hsum, List.map_map, List.getElem?_map, List.getD_eq_getElem?_getD, List.getElem?_eq_getElem hi]; rfl
  have hpat : ∀ i, i < m → atI ([a, b', c, d'].map PyData.int) ((i : Int) % 4) = some (.int (pu i)) := fun i hi => by
    have : (i : Int) % 4 = (i : Int) := by omega
    rw [this]
    refine atI_nat ?_
    have hi4 : i < 4 := by omega
    match i, hi4 with
    | 0, _ => rfl
    | 1, _ => rfl
    | 2, _ => rfl
    | 3, _ => rfl
  show Fin _ _ [.d (.list (tags.map .str)), .d (.list (sums.map .int)), .d (.list ([a, b', c, d'].map .int)), .u, .u, .u, .u, .u, .u, .u, .u] [.u, .u, .u, .u, .u, .u, .u, .u, .u, .u, .u] _
  refine fin_cons (r1_set 4 (r := .d bk.d) (ev_f Fo hr (by decide) (el_cons (ev 0) (el1 (Ev.dc (d2 := .list (lists.map rowD)) (.frz (ev_lcq _ [("_law_k", 3)] (restG tags) sc33.nd (ei_range1 (n := (tags.length : Int)) B.range (ed1 (Ev.dc (ev_lenL (ds := tags.map .str) B.len (ed1 (ev 0))) (by rw [List.length_map]))) (by omega) (by omega)) (blkOk_by (N := N33) (sc := defScope (topS 33)) (by decide +kernel)) (by rw [irange_len]; omega) (fun x hx => ?_) ⟨rfl, trivial⟩)) (congrArg PyData.list (rng_map (h := tags.drop) fun i => ?_))))) ⟨[.list (tags.map .str), .list (lists.map rowD)], rfl, rfl, tags, lists, rfl, by omega, rfl⟩) sc33.nd) ?_
  · obtain ⟨i, hi⟩ := List.mem_iff_getElem?.mp hx
    obtain ⟨hlt, rfl⟩ := irange_get hi
    rw [Int.zero_add]
    exact lct_one 3 rfl (fun _ _ _ _ _ => tg_name 3 sc33.nd) fun _ _ _ _ _ => Ev.dc (ev_tupL B.tuple (ed1 (.frz (ev_slL (ds := tags.map .str) (ev 0) (eo_some (ev 3)) eo_none)))) (by
      rw [cutD_from, ← List.map_drop]; rfl)
  · show some (rowD (tags.drop ((0 : Int) + (i : Nat)).toNat)) = _
    rw [show ((0 : Int) + (i : Nat)).toNat = i by omega]
  show Fin _ _ [.d (.list (tags.map .str)), .d (.list (sums.map .int)), .d (.list ([a, b', c, d'].map .int)), .u, .d bk.d, .u, .u, .u, .u, .u, .u] _ _
  refine fin_cons (r1_par 5 6 (r1 := .d (dueT (srtS tags) d0)) (r2 := .o none (Kf K (dueK tags d0))) (el_cons (Ev.dc (ev_tupL B.tuple (ed1 (.frz (ev_srtZ (ns := tags) (ds2 := sums.map .int) B.sorted T.nd (by rw [List.length_map]; exact hsl) (ez_zip B.zip (ed2 (ev 0) (ev 1))))))) (congrArg PyData.tuple hdue))
    (el1 (Ev.cast (ev_dicZ (ns := tags) (ds2 := sums.map .int) B.dict (by rw [List.length_map]; exact hsl) (ez_zip B.zip (ed2 (ev 0) (ev 1)))) ?_))) sc33.nd) ?_
  · have e : tags.zip (sums.map PyData.int) = dueP tags d0 := by rw [hsum, zip_dueP]
    rw [e, mergeD_nodup (kvT_nodup (by rw [dueP_keys]; exact T.nd))]
    rfl
  refine fin_cons (r1_set 7 (Ev.dc (d2 := paysD ps) (ev_tupL B.tuple (ed1 (.frz (ev_lcq _ [("_law_k", 3)] (payG pu) sc33.nd (ei_range1 (n := (m : Int)) B.range (ed1 (Ev.dc (ev_min B.min (ed2 (ev_int (i := 4)) (ev_lenL (ds := tags.map .str) B.len (ed1 (ev 0))))) ?_)) (by omega) (by omega)) (blkOk_by (N := N33) (sc := defScope (topS 33)) (by decide +kernel)) (by rw [irange_len]; omega) (fun x hx => ?_) ⟨rfl, trivial⟩)))) ?_) sc33.nd) ?_
  · rw [List.length_map]
    congr 1
    unfold min2
    split <;> omega
  · obtain ⟨i, hi⟩ := List.mem_iff_getElem?.mp hx
    obtain ⟨hlt, rfl⟩ := irange_get hi
    have hlt : i < m := by omega
    rw [Int.zero_add]
    exact lct_one 3 rfl (fun _ _ _ _ _ => tg_name 3 sc33.nd) fun _ _ _ _ _ => ev_tup (ed2 (ev_ixt (i := 0) (ds := [.str (letters.getD i empS), rowD (tags.drop i)]) rfl (ev_ixt (ds := bk.rows.map payD) (atI_nat (brow i (by omega))) (ev_ixt (i := 1) (ds := [rowD bk.names, .tuple (bk.rows.map payD)]) rfl (ev 4) ev_int) (ev 3)) ev_int)
      (ev_ixl (hpat i hlt) (ev 2) (ev_mod (ev 3) (ev_int (i := 4)) (by decide))))
  · have e : irange 0 (m : Int).toNat = (List.range m).map fun (i : Nat) => PyData.int i := ord_range
    rw [e, pay_map]
    rfl
  refine fin_cons (r1_set 8 (ev_int (i := 0)) sc33.nd) ?_
  let envs : Nat → List Sd := fun i => [.d (.list (tags.map .str)), .d (.list (sums.map .int)), .d (.list ([a, b', c, d'].map .int)), .u, .d bk.d, .d (dueT (srtS tags) d0), .o none (Kf K (dueK tags (flE tags d0 p i).1)), .d (paysD ps), .d (.int (flE tags d0 p i).2), .u, .u]
  refine fin_cons (r1_for (ds := irange 0 tags.length) [3] envs PassesOwn.never (ei_range1 (n := (tags.length : Int)) B.range (ed1 (Ev.dc (ev_lenL (ds := tags.map .str) B.len (ed1 (ev 0))) (by rw [List.length_map]))) (by omega) (by omega)) (by exact ⟨rfl, rfl, rfl, rfl, rfl, rfl, rfl, rfl, trivial⟩) fun i dd hdd => ?_) ?_
  · obtain ⟨hi, rfl⟩ := irange_get hdd
    rw [Int.zero_add]
    refine ⟨_, tg_name 3 sc33.nd, ?_⟩
    show Rn _ _ [.d (.list (tags.map .str)), .d (.list (sums.map .int)), .d (.list ([a, b', c, d'].map .int)), .d (.int (i : Nat)), .d bk.d, .d (dueT (srtS tags) d0), .o none (Kf K (dueK tags (flE tags d0 p i).1)), .d (paysD ps), .d (.int (flE tags d0 p i).2), .u, .u] _
    refine rn_cons (r1_set 8 (r := .d (.int ((flE tags d0 p i).2 + p i))) (ev_add (ev 8) (ev_if (bb := decide ((i : Int) < (m : Int))) (et_lt (ev 3) (Ev.dc (ev_lenT (ds := ps.map numP) B.len (ed1 (ev 7))) (by rw [List.length_map, hpl])))
      (fun hlt => Ev.dc (ev_ixt (i := 1) (ds := [.str (letters.getD i empS), .int (pu i)]) rfl (ev_ixt (ds := ps.map numP) (d := numP (letters.getD i empS, pu i)) (atI_nat ?_) (ev 7) (ev 3)) ev_int) ?_) (fun hlt => Ev.dc (ev_int (i := 0)) ?_))) sc33.nd) ?_
    · show ((((List.range m).map fun k => (letters.getD k empS, pu k))).map numP)[i]? = _
      rw [List.getElem?_map, rng_get (by have := of_decide_eq_true hlt; omega)]; rfl
    · show PyData.int (pu i) = .int (if i < m then pu i else 0)
      rw [if_pos (by have := of_decide_eq_true hlt; omega)]
    · show PyData.int 0 = .int (if i < m then pu i else 0)
      rw [if_neg (by have := of_decide_eq_false hlt; omega)]
    refine rn_cons (r1_set 9 (ev_min B.min (ed2 (ev 8) (ev_ixl (hsat i hi) (ev 1) (ev 3)))) sc33.nd) ?_
    refine rn_cons (r1_dputN 6 8 (k := Sum.inr (tags.getD i empS)) hu1 (ed2 (ev_sub (ev_ixl (hsat i hi) (ev 1) (ev 3)) (ev 9)) (ev_sub (ev 8) (ev 9))) (ev_ixl (str_at hi) (ev 0) (ev 3)) rfl (by decide) (by rw [dueK_len]; omega) sc33.nd) ?_
    refine rn_nil.wk ?_
    show Wk [_, _, _, _, _, _, .o none (Kf K (putD (dueK tags (flE tags d0 p i).1) (Sum.inr (tags.getD i empS)) (.int (d0 (tags.getD i empS) - min2 ((flE tags d0 p i).2 + p i) (d0 (tags.getD i empS)))))), _, .d (.int ((flE tags d0 p i).2 + p i - min2 ((flE tags d0 p i).2 + p i) (d0 (tags.getD i empS)))), _, _] (envs (i + 1))
    have hmem : tags.getD i empS ∈ tags := List.mem_of_getElem? (i := i) (by rw [List.getD_eq_getElem?_getD, List.getElem?_eq_getElem hi]; rfl)
    rw [put_due hmem]
    exact ⟨rfl, rfl, rfl, rfl, rfl, rfl, rfl, rfl, trivial⟩
  · rw [irange_len]
    show Fin _ _ [.d (.list (tags.map .str)), .d (.list (sums.map .int)), .d (.list ([a, b', c, d'].map .int)), .u, .d bk.d, .d (dueT (srtS tags) d0), .o none (Kf K (dueK tags (flE tags d0 p tags.length).1)), .d (paysD ps), .d (.int (flE tags d0 p tags.length).2), .u, .u] _ _
    rw [hD]
    have hEn : d_ends [bk.d, dueT (srtS tags) d0, paysD ps] (.d (.list [dueT (srtS tags) D])) := by
      have := d_ends_mk Si (by omega) Ag nn0
      rw [hAll] at this
      exact this
    refine fin_ifN (et_ne (d2 := .list [dueT (srtS tags) D]) (ev_f En hr (by decide) (el_cons (ev 4) (el_cons (ev 5) (el1 (ev 7)))) ⟨[bk.d, dueT (srtS tags) d0, paysD ps], rfl, rfl, hEn⟩)
      (.frz (ev_lst (ed1 (Ev.dc (ev_tupL B.tuple (ed1 (.frz (ev_srtI 6 (ks := dueP tags D) B.sorted (by rw [dueP_keys]; exact T.nd) rfl)))) (by rw [srt_dueD]; rfl))))) hu64 shE.sh shE.sh) (by rw [shE.refl]; rfl) ?_
    refine fin_ifN (et_ne (ev_f Sb hr (Nat.le_refl _) (el_cons (ev 4) (el_cons (ev 5) (el_cons (ev 7) (el1 (Ev.dc (d2 := ordD (List.range ps.length)) (ev_tupRg (n := ps.length) (by omega) B.tuple B.range (Ev.dc (ev_lenT (ds := ps.map numP) B.len (ed1 (ev 7))) (by rw [List.length_map]))) (congrArg PyData.tuple ord_range)))))) ⟨[bk.d, dueT (srtS tags) d0, paysD ps, ordD (List.range ps.length)], rfl, rfl, bk, srtS tags, ps, _, _, rfl, Si, O, rfl⟩) (ev 8) hu64 rfl rfl) (by rw [gs, (Shp.int _).refl]; rfl) ?_
    let l2 : List (List Str) := [tags, tags.reverse, []]
    let b2 : Bk := folkB tags l2
    let ps2 : List (Str × Int) := [(sP, a), (sQ, b'), (sP, c), (sR, 3)]
    let ps3 : List (Str × Int) := [(sR, 3)]
    have l2l : ∀ l ∈ l2, l.length ≤ 100 := fun l hl => by
      have : l = tags ∨ l = tags.reverse ∨ l = [] := by simpa [l2] using hl
      rcases this with rfl | rfl | rfl
      · omega
      · rw [List.length_reverse]; omega
      · exact Nat.zero_le _
    have l2s : ∀ l ∈ l2, ∀ x ∈ l, x ∈ tags := fun l hl x hx => by
      have : l = tags ∨ l = tags.reverse ∨ l = [] := by simpa [l2] using hl
      rcases this with rfl | rfl | rfl
      · exact hx
      · exact List.mem_reverse.mp hx
      · cases hx
    have rP : rowOf b2 sP = tags := folk_row (k := 0) l2l rfl rfl
    have rQ : rowOf b2 sQ = tags.reverse := folk_row (k := 1) l2l rfl rfl
    have rR : rowOf b2 sR = [] := folk_row (k := 2) l2l rfl rfl
    have hin : ∀ q : List (Str × Int), (∀ x ∈ q.map (·.1), x ∈ letters.take 3) → ∀ y ∈ q, y.1 ∈ letters.take l2.length := fun q h y hy => h _ (List.mem_map.mpr ⟨y, hy, rfl⟩)
    have S2 : Sit b2 (srtS tags) ps2 := folk_sit T l2l l2s (by show 4 ≤ 20; decide) (hin _ (by show ∀ x ∈ [sP, sQ, sP, sR], x ∈ letters.take 3; decide +kernel))
    have S3 : Sit b2 (srtS tags) ps3 := folk_sit T l2l l2s (by show 1 ≤ 20; decide) (hin _ (by show ∀ x ∈ [sR], x ∈ letters.take 3; decide +kernel))
    have rows2 : ∀ i, i < 4 → (rowOf b2 (pay ps2 i).1 = tags ∨ rowOf b2 (pay ps2 i).1 = tags.reverse ∨ rowOf b2 (pay ps2 i).1 = []) ∧ 0 ≤ (pay ps2 i).2 := fun i hi => by
      match i, hi with
      | 0, _ => exact ⟨.inl rP, ha⟩
      | 1, _ => exact ⟨.inr (.inl rQ), hb'⟩
      | 2, _ => exact ⟨.inl rP, hc⟩
      | 3, _ => exact ⟨.inr (.inr rR), by show (0 : Int) ≤ 3; decide⟩
    have A2 : Agree b2 ps2 := ⟨fun i j hi hj => both_comp T.nd (rows2 i hi).1 (rows2 j hj).1, fun i hi => (rows2 i hi).2⟩
    refine fin_cons (r1_set 10 (r := .d b2.d) (ev_f Fo hr (by decide) (el_cons (ev 0) (el1 (Ev.dc (d2 := .list (l2.map rowD)) (.frz (ev_lst (ed_cons (ev_tupL B.tuple (ed1 (ev 0))) (ed2 (ev_tupL (ds := (tags.map PyData.str).reverse) B.tuple (ed1 (.frz (ev_slRev (ev 0) (Ev.dc (ev_neg (ev_int (i := 1))) rfl))))) (ev_tup ed_nil))))) ?_))) ⟨[.list (tags.map .str), .list (l2.map rowD)], rfl, rfl, tags, l2, rfl, by omega, rfl⟩) sc33.nd) ?_
    · show PyData.list [_, .tuple (tags.map PyData.str).reverse, _] = .list [_, .tuple (tags.reverse.map PyData.str), _]
      rw [List.map_reverse]; rfl
    have hE2 := d_ends_mk S2 (by show 4 < 5; decide) A2 nn0
    refine fin_ifN (et_ne (d1 := .int (([dueT (srtS tags) (dAt b2 ps2 (List.range ps2.length) d0)] : List PyData).length : Int)) (ev_lenL B.len (ed1 (ev_f En hr (by decide) (el_cons (ev 10) (el_cons (ev 5) (el1 (Ev.dc (d2 := paysD ps2) (ev_tup (ed_cons (ev_tup (ed2 (ev_str (i := sP)) (ev_ixl (i := 0) (d := .int a) rfl (ev 2) ev_int))) (ed_cons (ev_tup (ed2 (ev_str (i := sQ)) (ev_ixl (i := 1) (d := .int b') rfl (ev 2) ev_int))) (ed2 (ev_tup (ed2 (ev_str (i := sP)) (ev_ixl (i := 2) (d := .int c) rfl (ev 2) ev_int))) (ev_tup (ed2 (ev_str (i := sR)) (ev_int (i := 3)))))))) rfl)))) ⟨[b2.d, dueT (srtS tags) d0, paysD ps2], rfl, rfl, hE2⟩))) (ev_int (i := 1)) hu64 rfl rfl) rfl ?_
    have O3 : Ord ps3 [0] := ⟨by decide, (by decide : ∀ i ∈ [0], i < 1), fun i hi => (by decide : ∀ i, i < 1 → i ∈ [0]) i hi, by decide⟩
    have g3 : (gvs b2 ps3 d0 [0]).map PyData.int = [.int 3] := by
      have h := gvs_sum (d := d0) S3 O3
      have e1 : dAt b2 ps3 [0] d0 = d0 := by
        show (stp b2 ps3 d0 0).2.1 = d0
        unfold stp
        have : (pay ps3 0).1 = sR := rfl
        rw [this, rR]; rfl
      rw [e1] at h
      have e2 : gvs b2 ps3 d0 [0] = [gbv (gbL b2 ps3 [0] d0) 0] := rfl
      rw [e2] at h ⊢
      have e3 : ([gbv (gbL b2 ps3 [0] d0) 0] : List Int).sum = gbv (gbL b2 ps3 [0] d0) 0 + 0 := rfl
      have e4 : (ps3.map (·.2)).sum = 3 + 0 := rfl
      have : gbv (gbL b2 ps3 [0] d0) 0 = 3 := by omega
      rw [this]; rfl
    have mR : (sR, ([] : List Str)) ∈ b2.rows := folk_at (k := 2) rfl rfl
    refine fin_ret (Ev.dc (ev_and (x := true) (y := true) (ev_isN (d := .none) (ev_f Op hr (by decide) (el_cons (ev 10) (el_cons (ev 5) (el1 (ev_str (i := sR))))) ⟨[b2.d, dueT (srtS tags) d0, .str sR], rfl, rfl, b2, srtS tags, d0, sR, rfl, S2.ok, S2.nd, S2.len, mR, rfl⟩) fun H v hv => by rw [dp_non hv]; rfl)
      (fun _ => ev_one (Ev.dc (ev_eq (d1 := .tuple [.int 3]) (d2 := .tuple [.int 3]) (ev_f Gb hr (by decide) (el_cons (ev 10) (el_cons (ev 5) (el_cons (Ev.dc (d2 := paysD ps3) (ev_tup (ed1 (ev_tup (ed2 (ev_str (i := sR)) (ev_int (i := 3)))))) rfl) (el1 (Ev.dc (d2 := ordD [0]) (ev_tup (ed1 ev_int)) rfl))))) ⟨[b2.d, dueT (srtS tags) d0, paysD ps3, ordD [0]], rfl, rfl, b2, srtS tags, ps3, d0, [0], rfl, S3, O3, by rw [g3]⟩) (ev_tup (ed1 (ev_int (i := 3)))) hu64 rfl rfl) rfl)) fun z => rfl) rfl)
end
end Ol
set_option Elab.async false
set_option linter.all false
set_option maxRecDepth 100000
set_option maxHeartbeats 4000000
/-! OlR4: all three; the draws. -/
namespace Ol
open PySem L2
open Evl (Ex Ex.refl Ex.trans Ex.new ex_l ex_t fresh_back sz_of sz_lt)
abbrev N34 : List Str := ["_law_tags_here", "_law_sums_so", "_law_purses_so", "_law_starts_so"]
def d_all (ds : List PyData) (r : Sd) : Prop := ∃ (tags : List Str) (sums purses : List Int) (ss : List Nat), Fam tags sums purses ∧ ss.length ≤ 4 ∧ (∀ k ∈ ss, k < tags.length) ∧ ds = [.list (tags.map .str), .list (sums.map .int), .list (purses.map .int), .tuple (ss.map fun (k : Nat) => .int k)] ∧ r = .d (.bool true)
section
variable {P : Program} {w : World} {K : PySem.W.Frag} {mg : Str → Option Value} {base : Heap}
theorem sc34 : FnScope N34 ["_law_tags_here", "_law_sums_so", "_law_purses_so", "_law_starts_so"] (defScope (topS 34)) := ⟨rfl, rfl, rfl, by decide +kernel, rfl, by decide +kernel, by decide +kernel⟩
theorem ok_all {f : Addr} {fd : FuncData} (Fn : Fun K "_law_all_right" "_law_all_right" (topS 34) f fd) (D1 : Dn P w K mg base "_law_one_right" ["_law_tags_here", "_law_sums_so", "_law_purses_so"] 9 (RelD d_one)) (D2 : Dn P w K mg base "_law_circle_right" ["_law_tags_here", "_law_starts_so"] 9 (RelD d_circle))
    (D3 : Dn P w K mg base "_law_rest_right" ["_law_tags_here", "_law_sums_so", "_law_purses_so"] 9 (RelD d_rest)) :
    FnOk P w K mg base CX0 10 f fd ["_law_tags_here", "_law_sums_so", "_law_purses_so", "_law_starts_so"] (spD K (RelD d_all)) := by
  refine fn_okD Fn sc34 (fun ds r h => by obtain ⟨_, _, _, _, _, _, _, rfl, _⟩ := h; rfl) fun cdv A outer s H E hr ds r h => ?_
  obtain ⟨tags, sums, purses, ss, F, h4, hss, rfl, rfl⟩ := h
  show Fin _ _ [.d (.list (tags.map .str)), .d (.list (sums.map .int)), .d (.list (purses.map .int)), .d (.tuple (ss.map fun (k : Nat) => .int k))] [.u, .u, .u, .u] _
  refine fin_ifN (Ew.t (ew_or (et_not (et_val (bb := true) (ev_f D1 hr (Nat.le_refl _) (el_cons (ev 0) (el_cons (ev 1) (el1 (ev 2)))) ⟨[.list (tags.map .str), .list (sums.map .int), .list (purses.map .int)], rfl, rfl, tags, sums, purses, F, rfl, rfl⟩)))
    (fun _ => ew_one (et_not (et_val (bb := true) (ev_f D2 hr (Nat.le_refl _) (el_cons (ev 0) (el1 (ev 3))) ⟨[.list (tags.map .str), .tuple (ss.map fun (k : Nat) => .int k)], rfl, rfl, tags, ss, F.t, h4, hss, rfl, rfl⟩))) fun t h => pw_or1 h) fun _ => rfl)) rfl ?_
  exact fin_ret (ev_f D3 hr (Nat.le_refl _) (el_cons (ev 0) (el_cons (ev 1) (el1 (ev 2)))) ⟨[.list (tags.map .str), .list (sums.map .int), .list (purses.map .int)], rfl, rfl, tags, sums, purses, F, rfl, rfl⟩)
end
end Ol
set_option Elab.async false
set_option linter.all false
set_option maxRecDepth 100000
set_option maxHeartbeats 4000000
/-! OlR5: the draws. -/
namespace Ol
open PySem L2
open Evl (Ex Ex.refl Ex.trans Ex.new ex_l ex_t fresh_back sz_of sz_lt)
theorem star_bin {a b : Expr} {op : Operator} {pos : Pos} {es : List Expr} {env : Env} : starEach (.BinOp a op b pos :: es) env = (false, eval (.BinOp a op b pos) env) :: starEach es env := rfl
abbrev SOk (x : Str) : Prop := PyData.strOk x = true
theorem sok_iff {x : Str} : SOk x ↔ ∀ c ∈ x.cps.toList, c < 0x110000 := by
  show PyData.strOk x = true ↔ _
  unfold PyData.strOk
  rw [← Array.all_toList, List.all_eq_true]
  exact ⟨fun h c hc => of_decide_eq_true (h c hc), fun h c hc => decide_eq_true (h c hc)⟩
theorem sok_app {x y : Str} (hx : SOk x) (hy : SOk y) : SOk (x ++ y) := by
  rw [sok_iff] at *
  intro c hc
  have : (x ++ y).cps.toList = x.cps.toList ++ y.cps.toList := by
    show (x.cps ++ y.cps).toList = _
    rw [Array.toList_append]
  rw [this] at hc
  rcases List.mem_append.mp hc with h | h
  · exact hx c h
  · exact hy c h
theorem sok_cut {x : Str} {lo hi : Option Int} (hx : SOk x) : SOk (cutS x lo hi) := by
  rw [sok_iff] at *
  intro c hc
  unfold cutS at hc
  have hc : c ∈ ((x.cps.toList.drop (HT.sIx x.length 0 lo)).take (HT.sIx x.length x.length hi - HT.sIx x.length 0 lo)) := hc
  exact hx c (List.mem_of_mem_drop (List.mem_of_mem_take hc))
theorem sok_join {l : List Str} (h : ∀ x ∈ l, SOk x) : SOk (Txt.join empS l) := by
  rw [sok_iff]
  intro c hc
  have e : Txt.join empS l = Str.join empS l := PySem.StrLaws.glued_eq_join empS l
  rw [e, PyProof.Rows.mem_join] at hc
  rcases hc with ⟨t, ht, hc⟩ | ⟨_, hc⟩
  · exact sok_iff.mp (h t ht) c hc
  · have : empS.cps.toList = [] := by decide +kernel
    rw [this] at hc; cases hc
theorem sok_sgn {i : Int} (h0 : 0 ≤ i) (h1 : i < 26) : SOk (sgn i) := by
  rw [sok_iff]
  intro c hc
  have : c = 97 + i.toNat := by
    have hc : c ∈ [97 + i.toNat] := hc
    exact List.mem_singleton.mp hc
  omega
theorem sok_row (u : Urn) (many : Nat) : ∀ x ∈ tgRow u many, SOk x := fun x hx => by
  unfold tgRow rowL at hx
  obtain ⟨k, _, rfl⟩ := List.mem_map.mp hx
  exact sok_sgn (Int.emod_nonneg _ (by decide)) (Int.emod_lt_of_pos _ (by decide))
theorem sok_stS (u : Urn) : ∀ i, ∀ x ∈ (stS u i).1, SOk x
  | 0, x, h => by cases h
  | i + 1, x, h => by
    rcases List.mem_append.mp (show x ∈ (stS u i).1 ++ [sgn (takeF (stS u i).2 26).1] from h) with h | h
    · exact sok_stS u i x h
    · rw [List.mem_singleton.mp h]
      have := takeF_in (u := (stS u i).2) (low := 26) (by decide)
      exact sok_sgn this.1 this.2
theorem sok_tags {u : Urn} {many : Nat} (hm : many ≤ 8) : ∀ x ∈ (tagsF u many).1, SOk x := fun x hx => by
  unfold tagsF at hx
  split at hx
  · have hx := (srt_perm id _).mem_iff.mp (show x ∈ srt id (tg1 u many) from hx)
    unfold tg1 at hx
    obtain ⟨k, _, rfl⟩ := List.mem_map.mp hx
    exact sok_join fun y hy => sok_row u many y (List.mem_of_mem_take hy)
  · have hx := (srt_perm id _).mem_iff.mp (show x ∈ srt id (tg2 u many) from hx)
    unfold tg2 at hx
    obtain ⟨k, hk, rfl⟩ := List.mem_map.mp hx
    have st : SOk (tgStem u) := sok_join fun y hy => sok_stS _ _ y hy
    have hkl : k < (tgRow u many).length := by rw [row_len hm]; have := List.mem_range.mp hk; omega
    refine sok_app (sok_app (sok_cut st) ?_) (sok_cut st)
    rw [List.getD_eq_getElem?_getD, List.getElem?_eq_getElem hkl]
    exact sok_row u many _ (List.getElem_mem hkl)
def ofS (ns : List Int) (u : Urn) : Nat → List Int × Urn
  | 0 => ([], u)
  | i + 1 => ((ofS ns u i).1 ++ [ofI (ofS ns u i).2 ns], (takeF (ofS ns u i).2 ns.length).2)
theorem ofS_facts {ns : List Int} (hne : ns ≠ []) (u : Urn) : ∀ i, (ofS ns u i).1.length = i ∧ (ofS ns u i).2.cnt ≤ u.cnt + i ∧ ∀ x ∈ (ofS ns u i).1, x ∈ ns
  | 0 => ⟨rfl, Nat.le_refl _, fun x h => by cases h⟩
  | i + 1 => by
    obtain ⟨h1, h2, h3⟩ := ofS_facts hne u i
    refine ⟨?_, ?_, fun x hx => ?_⟩
    · show ((ofS ns u i).1 ++ [_]).length = _
      rw [List.length_append, h1]; rfl
    · show (takeF (ofS ns u i).2 ns.length).2.cnt ≤ _
      have := takeF_cnt (u := (ofS ns u i).2) (low := ns.length); omega
    · rcases List.mem_append.mp (show x ∈ (ofS ns u i).1 ++ [ofI (ofS ns u i).2 ns] from hx) with z | z
      · exact h3 x z
      · rw [List.mem_singleton.mp z]; exact ofI_mem hne
def tkS (low : Nat) (u : Urn) : Nat → List Nat × Urn
  | 0 => ([], u)
  | i + 1 => ((tkS low u i).1 ++ [(takeF (tkS low u i).2 low).1.toNat], (takeF (tkS low u i).2 low).2)
theorem tkS_facts {low : Nat} (h : 0 < low) (u : Urn) : ∀ i, (tkS low u i).1.length = i ∧ (tkS low u i).2.cnt ≤ u.cnt + i ∧ ∀ x ∈ (tkS low u i).1, x < low
  | 0 => ⟨rfl, Nat.le_refl _, fun x h => by cases h⟩
  | i + 1 => by
    obtain ⟨h1, h2, h3⟩ := tkS_facts h u i
    refine ⟨?_, ?_, fun x hx => ?_⟩
    · show ((tkS low u i).1 ++ [_]).length = _
      rw [List.length_append, h1]; rfl
    · show (takeF (tkS low u i).2 low).2.cnt ≤ _
      have := takeF_cnt (u := (tkS low u i).2) (low := low); omega
    · rcases List.mem_append.mp (show x ∈ (tkS low u i).1 ++ [(takeF (tkS low u i).2 low).1.toNat] from hx) with z | z
      · exact h3 x z
      · rw [List.mem_singleton.mp z]
        have := takeF_in (u := (tkS low u i).2) (low := low) (by omega)
        omega
def sumL : List Int := [0, 1, 1, 2, 3, (10 : Int) ^ (39 : Int).toNat]
def purL : List Int := [0, 1, 2, 3, 5, (10 : Int) ^ (39 : Int).toNat]
def rMany (u : Urn) : Nat := 1 + (takeF u 6).1.toNat
def rTg (u : Urn) : List Str × Urn := tagsF (takeF u 6).2 (rMany u)
def rMx (u : Urn) : Mix := mixF (rTg u).2 (rTg u).1
def rTags (u : Urn) : List Str := (rMx u).found
def rSm (u : Urn) : List Int × Urn := ofS sumL (rMx u).urn (rTags u).length
def rPu (u : Urn) : List Int × Urn := ofS purL (rSm u).2 4
def rT5 (u : Urn) : Int × Urn := takeF (rPu u).2 5
def rSt (u : Urn) : List Nat × Urn := tkS (rTags u).length (rT5 u).2 (rT5 u).1.toNat
def turnU (u : Urn) : Nat → Urn
  | 0 => u
  | i + 1 => (rSt (turnU u i)).2
structure RF (u : Urn) : Prop where
  many : rMany u ≤ 6
  len : (rTags u).length = rMany u
  tl : (rTg u).1.length = rMany u
  fam : Fam (rTags u) (rSm u).1 (rPu u).1
  c1 : (rTg u).2.cnt ≤ u.cnt + 21
  c2 : (rMx u).urn.cnt ≤ u.cnt + 30
  c3 : (rSm u).2.cnt ≤ u.cnt + 40
  c4 : (rPu u).2.cnt ≤ u.cnt + 45
  c5 : (rT5 u).2.cnt ≤ u.cnt + 46
  c6 : (rSt u).2.cnt ≤ u.cnt + 60
  s4 : (rSt u).1.length ≤ 4
  ss : ∀ k ∈ (rSt u).1, k < (rTags u).length
  t5 : 0 ≤ (rT5 u).1 ∧ (rT5 u).1 < 5
theorem rf (u : Urn) : RF u := by
  have t6 := takeF_in (u := u) (low := 6) (by decide)
  have k1 := takeF_cnt (u := u) (low := 6)
  have hm : rMany u ≤ 6 := by unfold rMany; omega
  obtain ⟨n1, n2, n3⟩ := tagsF_facts (u := (takeF u 6).2) (many := rMany u) (by omega)
  have pm : (rTags u).Perm (rTg u).1 := mixF_perm _ _
  have tl : (rTg u).1.length = rMany u := n2
  have len : (rTags u).length = rMany u := by rw [pm.length_eq]; exact tl
  obtain ⟨_, _, m3, _⟩ := mix_facts (rTg u).2 (rTg u).1 (rTg u).1.length (Nat.le_refl _)
  have m3 : (rMx u).urn.cnt ≤ (rTg u).2.cnt + (rTg u).1.length := m3
  have n3 : (rTg u).2.cnt ≤ (takeF u 6).2.cnt + 20 := n3
  obtain ⟨s1, s2, s3⟩ := ofS_facts (ns := sumL) (by exact fun h => nomatch h) (rMx u).urn (rTags u).length
  have s2 : (rSm u).2.cnt ≤ (rMx u).urn.cnt + (rTags u).length := s2
  obtain ⟨p1, p2, p3⟩ := ofS_facts (ns := purL) (by exact fun h => nomatch h) (rSm u).2 4
  have p2 : (rPu u).2.cnt ≤ (rSm u).2.cnt + 4 := p2
  have k5 := takeF_cnt (u := (rPu u).2) (low := 5)
  have k5 : (rT5 u).2.cnt ≤ (rPu u).2.cnt + 1 := k5
  have t5 := takeF_in (u := (rPu u).2) (low := 5) (by decide)
  have t5 : 0 ≤ (rT5 u).1 ∧ (rT5 u).1 < 5 := t5
  have pos : 0 < (rTags u).length := by rw [len]; unfold rMany; omega
  obtain ⟨q1, q2, q3⟩ := tkS_facts pos (rT5 u).2 (rT5 u).1.toNat
  have q1 : (rSt u).1.length = (rT5 u).1.toNat := q1
  have q2 : (rSt u).2.cnt ≤ (rT5 u).2.cnt + (rT5 u).1.toNat := q2
  have nns : ∀ x ∈ sumL, 0 ≤ x := by decide
  have nnp : ∀ x ∈ purL, 0 ≤ x := by decide
  exact ⟨hm, len, tl, ⟨⟨pm.nodup_iff.mpr n1, pos, by rw [len]; exact hm, fun x hx => sok_tags (by omega) x (pm.mem_iff.mp hx)⟩, s1.symm, fun x hx => nns x (s3 x hx), p1, fun x hx => nnp x (p3 x hx)⟩, by omega, by omega, by omega, by omega, by omega, by omega, by omega, q3, t5⟩
theorem turn_cnt (u : Urn) : ∀ i, (turnU u i).cnt ≤ u.cnt + 60 * i
  | 0 => Nat.le_refl _
  | i + 1 => by
    have := turn_cnt u i
    have h := (rf (turnU u i)).c6
    show (rSt (turnU u i)).2.cnt ≤ _
    omega
end Ol
set_option Elab.async false
set_option linter.all false
set_option maxRecDepth 100000
set_option maxHeartbeats 4000000
/-! OlR7: the law's own def. -/
namespace Ol
open PySem L2
open Evl (Ex Ex.refl Ex.trans Ex.new ex_l ex_t fresh_back sz_of sz_lt)
def r_right (K : PySem.W.Frag) : Rel := fun as as' r => ∃ u : Urn, as = [.o none (Uf K u)] ∧ as' = [.u] ∧ r = .d (.bool true) ∧ u.cnt < 1000
abbrev N37 : List Str := ["_law_script", "_law_rows", "_law_k"]
def trueG : PyData → Option PyData := fun _ => some (.bool true)
def d_law (ds : List PyData) (r : Sd) : Prop := ∃ ns : List Int, ds = [.list (ns.map .int)] ∧ ns.length ≤ 1000 ∧ r = .d (.bool true)
def d_hand (ds : List PyData) (r : Sd) : Prop := ds = [] ∧ r = .d (.bool true)
theorem cell0_le {ns : List Int} (h : ns.length ≤ 1000) : (cell0 ns).length ≤ 1000 := by
  unfold cell0
  split
  · exact Nat.le_of_ble_eq_true rfl
  · rw [List.length_take]; omega
theorem true_map : ∀ n : Nat, (irange 0 n).filterMap trueG = (List.replicate n true).map .bool := fun n => by
  unfold irange
  rw [filterMap_map (fun (i : Nat) => PyData.int (0 + i)) trueG (fun _ => .bool true) (fun _ => rfl), List.map_const', List.length_range, List.map_replicate]
section
variable {P : Program} {w : World} {K : PySem.W.Frag} {mg : Str → Option Value} {base : Heap}
theorem ev_f0 {X : Cx} {env : List Sd} {p pos : Pos} {k n : Nat} {R : Rel} {x : Str} {r : Sd} {as' : List Sd} (D : Dn X.prog X.w X.K X.mg X.base x [] k R) (hr : Room n X.A) (hkn : k ≤ n) (hR : R [] as' r) (hg : Gl X x := by rfl) (hdb : (x == ("__debug__" : Str)) = false := by decide) : Ev X (.Call (.Name x p) [] [] pos) env env r := by
  obtain ⟨f, fd, F, hm, hk, hb⟩ := D
  refine fun β σ H H1 Q S q => teW.of (pe_call0 (dvs := []) (ds := []) F (hr.mono hkn) hg hm hk hb .nil pass0 hdb) ?_
  show spD X.K R ([] ++ []) H1 Q E0
  have nA : ∀ i p, ¬ OwnAt (([] : List V).map some) (addr [] []) i p := fun i p ⟨w1, _⟩ => by cases i <;> cases w1
  refine ⟨H, [], as', r, ⟨⟨rfl, fun i s h => (by cases i <;> cases h), fun i j p x y => (nA i p x).elim⟩, S.ex, Ex.refl _, fun _ h => h, fun _ _ _ h => h, fun _ h _ => h, fun i p w' => (nA i p w').elim, fun i p φ w1 w2 => by cases i <;> cases w1⟩, rfl, hR, fun v H'' H3 T Rv => ?_⟩
  have S2 : St X.K β σ H'' H3 env := by
    refine { env := ⟨S.env.len, fun j s h => ?_, S.env.inj⟩, ex := T.ex, b := S.b.trans T.b, there := fun a h => T.there a (S.there a h), keep := fun a o n h => T.keep a o (fun ⟨i, z⟩ => nA i a z) (S.keep a o n h), off := fun a h h1 => T.off a (S.off a h h1) (S.there a h1), own := S.own, loc := S.loc }
    obtain ⟨y, hy, ok⟩ := S.env.at_ j s h
    exact ⟨y, hy, ok.up T.b fun p o ho h0 h1 ey => ⟨T.off p h0 (some_ne h1), T.keep p o (fun ⟨i, z⟩ => nA i p z) h1⟩⟩
  refine q v H'' H3 S2 T.b ⟨Rv.ok, fun a φ er p ev => ⟨?_, fun i w' => ?_⟩⟩
  · have n : H1 p = none := (Rv.new a φ er p ev).1
    rcases none_or (H := β.B1) (a := p) with z | ⟨o, z⟩
    · exact z
    · exact absurd n (S.there p (some_ne z))
  · have n : H1 p = none := (Rv.new a φ er p ev).1
    obtain ⟨_, o, z⟩ := w'.obj S.env
    exact nomatch z.symm.trans n
theorem sc37 : FnScope N37 ["_law_script"] (defScope (topS 37)) := ⟨rfl, rfl, rfl, by decide +kernel, rfl, by decide +kernel, by decide +kernel⟩
theorem ok_law {f : Addr} {fd : FuncData} (Fn : Fun K "law" "law" (topS 37) f fd) (B : Bl mg) (Ce : Dn P w K mg base "_law_cells" ["_law_script", "_law_top"] 1 (RelD d_cells)) (Bx : Dn P w K mg base "_law_box" ["_law_script", "_law_k"] 1 (RelD (d_box K)))
    (Rt : Dn P w K mg base "_law_right" ["_law_urn"] 11 (r_right K)) (Hd : Dn P w K mg base "_law_by_hand_right" [] 12 (RelD d_hand)) :
    FnOk P w K mg base CX0 13 f fd ["_law_script"] (spD K (RelD d_law)) := by
  refine fn_okD Fn sc37 (fun ds r h => by obtain ⟨_, rfl, _⟩ := h; rfl) fun cdv A outer s H E hr ds r h => ?_
  obtain ⟨ns, rfl, hl, rfl⟩ := h
  show Fin _ _ [.d (.list (ns.map .int)), .u, .u] [.u, .u, .u] _
  generalize hc : cellS ns (cellM ns).length = cs
  have hcl : cs.length ≤ 1000 := by
    rw [← hc, cellS_len]
    exact cell0_le hl
  refine fin_cons (r1_set 1 (r := .d (.list (cs.map .int))) (ev_f Ce hr (by decide) (el_cons (ev 0) (el1 (ev_int (i := 3)))) ⟨[.list (ns.map .int), .int 3], rfl, rfl, ns, rfl, hl, by rw [hc]⟩) sc37.nd) ?_
  refine fin_ret (Ev.dc (ev_and (x := true) (y := (List.replicate cs.length true).all id) (ev_f0 Hd hr (Nat.le_refl _) ⟨[], rfl, rfl, rfl, rfl⟩) (fun _ => ev_one (ev_all (bs := List.replicate cs.length true) B.all (ed1 (Ev.dc (.frz (ev_lcq _ [("_law_k", 2)] trueG sc37.nd (ei_range1 (n := (cs.length : Int)) B.range (ed1 (Ev.dc (ev_lenL (ds := cs.map .int) B.len (ed1 (ev 1))) (by rw [List.length_map]))) (by omega) (by omega)) (blkOk_by (N := N37) (sc := defScope (topS 37)) (by decide +kernel)) (by rw [irange_len]; omega) (fun x hx => ?_) ⟨rfl, trivial⟩)) (congrArg PyData.list (true_map _)))))) fun _ => rfl) ?_)
  · obtain ⟨i, hi⟩ := List.mem_iff_getElem?.mp hx
    obtain ⟨hlt, rfl⟩ := irange_get hi
    have hlt : i < cs.length := hlt
    rw [Int.zero_add]
    refine lct_one 2 rfl (fun _ _ _ _ _ => tg_name 2 sc37.nd) fun _ _ _ _ _ => ev_f Rt hr (Nat.le_of_ble_eq_true rfl) (el1 (r := .o none (Uf K (boxF cs[i] i))) (ev_f Bx hr (by decide) (el_cons (ev 1) (el1 (ev 2))) ⟨[.list (cs.map .int), .int (i : Int)], rfl, rfl, cs, i, cs[i], rfl, List.getElem?_eq_getElem hlt, rfl⟩)) ⟨boxF cs[i] i, rfl, rfl, rfl, ?_⟩
    show 0 < 1000
    decide
  · congr 1
    rw [Bool.true_and]
    simp
end
end Ol
set_option Elab.async false
set_option linter.all false
set_option maxRecDepth 100000
set_option maxHeartbeats 4000000
/-! OlR6: right. -/
namespace Ol
open PySem L2
open Evl (Ex Ex.refl Ex.trans Ex.new ex_l ex_t fresh_back sz_of sz_lt)
abbrev N36 : List Str := ["_law_urn", "_law_turn", "_law_tags_here", "_law_sums_so", "_law_purses_so", "_law_starts_so", "_law_own", "_law_lap"]
section
variable {P : Program} {w : World} {K : PySem.W.Frag} {mg : Str → Option Value} {base : Heap}
theorem sc36 : FnScope N36 ["_law_urn"] (defScope (topS 36)) := ⟨rfl, rfl, rfl, by decide +kernel, rfl, by decide +kernel, by decide +kernel⟩
theorem ok_right {f : Addr} {fd : FuncData} (Fn : Fun K "_law_right" "_law_right" (topS 36) f fd) (B : Bl mg) (T : Dn P w K mg base "_law_take" ["_law_urn", "_law_low_so"] 1 (r_take K)) (O : Dn P w K mg base "_law_of" ["_law_urn", "_law_some_so"] 2 (r_of K))
    (Mx : Dn P w K mg base "_law_mixed" ["_law_urn", "_law_pool"] 2 (r_mixed K)) (Tg : Dn P w K mg base "_law_tags" ["_law_urn", "_law_many_so"] 3 (r_tags K)) (Al : Dn P w K mg base "_law_all_right" ["_law_tags_here", "_law_sums_so", "_law_purses_so", "_law_starts_so"] 10 (RelD d_all)) :
    FnOk P w K mg base CX0 11 f fd ["_law_urn"] (spD K (r_right K)) := by
  refine fn_ok Fn sc36 (fun as as' r h => ?_) fun cdv A outer s H E hr vs as as' r h hl hO => ?_
  · obtain ⟨u, rfl, rfl, _⟩ := h
    exact ⟨rfl, rfl, fun i s h => by
      cases i with
      | zero => cases h; exact .inl rfl
      | succ i => cases h⟩
  · obtain ⟨u, rfl, rfl, rfl, hu⟩ := h
    obtain ⟨p, hp⟩ := hO 0 _ _ rfl
    match vs, hl, hp with
    | [v0], _, hp =>
      cases hp
      have hlim : CPow 10 39 := ⟨by decide, by decide, by decide⟩
      show Fin _ _ [.o (some p) (Uf K u), .u, .u, .u, .u, .u, .u, .u] [.u, .u, .u, .u, .u, .u, .u, .u] _
      let envs : Nat → List Sd := fun i => [.o (some p) (Uf K (turnU u i)), .u, .u, .u, .u, .u, .u, .u]
      refine fin_cons (r1_for (ds := irange 0 4) [1] envs PassesOwn.never (ei_range1 (n := 4) B.range (ed1 (ev_int (i := 4))) (by decide) (by decide)) (by exact ⟨rfl, trivial⟩) fun i dd hdd => ?_) ?_
      · obtain ⟨hi, rfl⟩ := irange_get hdd
        have hcnt := turn_cnt u i
        have hsn : turnU u (i + 1) = (rSt (turnU u i)).2 := rfl
        refine ⟨_, tg_name 1 sc36.nd, ?_⟩
        show Rn _ _ [.o (some p) (Uf K (turnU u i)), .d (.int (0 + (i : Nat))), .u, .u, .u, .u, .u, .u] (.nx [.o (some p) (Uf K (turnU u (i + 1))), .u, .u, .u, .u, .u, .u, .u])
        rw [hsn]
        generalize turnU u i = v at hcnt
        have R := rf v
        have t6 := takeF_in (u := v) (low := 6) (by decide)
        have k6 := takeF_cnt (u := v) (low := 6)
        have hm := R.many
        have c1 := R.c1
        have c2 := R.c2
        have c3 := R.c3
        have c4 := R.c4
        have c5 := R.c5
        have htl := R.tl
        have hlen := R.len
        have hpos := R.fam.t.pos
        refine rn_cons (r1_set 2 (ev_fB 0 0 Mx hr (by decide) (el_b 0 (el1 (ev_fB 0 0 Tg hr (by decide) (el_b 0 (el1 (Ev.dc (d2 := .int (rMany v : Int)) (ev_add (ev_int (i := 1)) (ev_fB 0 0 T hr (by decide) (el_b 0 (el1 (ev_int (i := 6)))) ⟨v, 6, rfl, rfl, rfl, by decide, by decide, by omega⟩)) ?_))) ⟨(takeF v 6).2, rMany v, rfl, rfl, rfl, by omega, by omega⟩))) ⟨(rTg v).2, (rTg v).1, rfl, rfl, rfl, by omega, by omega⟩) sc36.nd) ?_
        · unfold rMany
          congr 1
          omega
        show Rn _ _ [.o (some p) (Uf K (rMx v).urn), .d (.int (0 + (i : Nat))), .d (.list ((rTags v).map .str)), .u, .u, .u, .u, .u] _
        let envs2 : Nat → List Sd := fun j => [.o (some p) (Uf K (ofS sumL (rMx v).urn j).2), .u, .d (.list ((rTags v).map .str)), .u, .u, .u, .u, .u]
        refine rn_cons (r1_setLc 3 [("_law_own", 6)] envs2 (fun j => (ofS sumL (rMx v).urn j).1.map .int) sc36.nd (ei_list (ds := (rTags v).map .str) (ev 2)) (blkOk_by (N := N36) (sc := defScope (topS 36)) (by decide +kernel)) (by exact ⟨rfl, rfl, trivial⟩) (fun i => AllU.get (vs := [6]) ⟨rfl, trivial⟩) rfl (by rw [List.length_map]; omega) (fun j d hd => ?_) (by exact Nat.le_of_ble_eq_true rfl) rfl) ?_
        · have hj : j < (rTags v).length := by have := (List.getElem?_eq_some_iff.mp hd).1; rw [List.length_map] at this; exact this
          have hc := (ofS_facts (ns := sumL) (fun h => nomatch h) (rMx v).urn j).2.1
          obtain ⟨y, hy, rfl⟩ := str_of_mem (List.mem_of_getElem? hd)
          refine ⟨some (.int (ofI (ofS sumL (rMx v).urn j).2 sumL)), ⟨_, fun _ _ _ _ _ => tg_name 6 sc36.nd, _, _, fun _ _ _ _ _ => ep_nil, fun _ _ _ _ _ => ev_fB 0 0 O hr (by decide) (el_b 0 (el1 (Ev.dc (d2 := .list (sumL.map .int)) (.frz (ev_lst (ed_cons ev_int (ed_cons ev_int (ed_cons ev_int (ed_cons ev_int (ed2 ev_int (ev_pow (i := 10) (j := 39) ev_int ev_int hlim) (hs2 := star_bin)))))))) rfl))) ⟨(ofS sumL (rMx v).urn j).2, sumL, rfl, rfl, rfl, (fun h => nomatch h), by show 6 < 100; decide, by omega⟩, by exact ⟨rfl, rfl, trivial⟩⟩, ?_⟩
          show ((ofS sumL (rMx v).urn j).1 ++ [_]).map PyData.int = _
          rw [List.map_append]; rfl
        rw [List.length_map]
        show Rn _ _ [.o (some p) (Uf K (rSm v).2), .u, .d (.list ((rTags v).map .str)), .o none (Lf K ((rSm v).1.map .int)), .u, .u, .u, .u] _
        let envs3 : Nat → List Sd := fun j => [.o (some p) (Uf K (ofS purL (rSm v).2 j).2), .u, .d (.list ((rTags v).map .str)), .o none (Lf K ((rSm v).1.map .int)), .u, .u, .u, .u]
        refine rn_cons (r1_setLc (ds := irange 0 4) 4 [("_law_lap", 7)] envs3 (fun j => (ofS purL (rSm v).2 j).1.map .int) sc36.nd (ei_range1 (n := 4) B.range (ed1 (ev_int (i := 4))) (by decide) (by decide)) (blkOk_by (N := N36) (sc := defScope (topS 36)) (by decide +kernel)) (by exact ⟨rfl, rfl, rfl, trivial⟩) (fun i => AllU.get (vs := [7]) ⟨rfl, trivial⟩) rfl (by rw [irange_len]; decide) (fun j d hd => ?_) (by exact Nat.le_of_ble_eq_true rfl) rfl) ?_
        · obtain ⟨hj, rfl⟩ := irange_get hd
          have hj : j < 4 := hj
          have hc := (ofS_facts (ns := purL) (fun h => nomatch h) (rSm v).2 j).2.1
          refine ⟨some (.int (ofI (ofS purL (rSm v).2 j).2 purL)), ⟨_, fun _ _ _ _ _ => tg_name 7 sc36.nd, _, _, fun _ _ _ _ _ => ep_nil, fun _ _ _ _ _ => ev_fB 0 0 O hr (by decide) (el_b 0 (el1 (Ev.dc (d2 := .list (purL.map .int)) (.frz (ev_lst (ed_cons ev_int (ed_cons ev_int (ed_cons ev_int (ed_cons ev_int (ed2 ev_int (ev_pow (i := 10) (j := 39) ev_int ev_int hlim) (hs2 := star_bin)))))))) rfl))) ⟨(ofS purL (rSm v).2 j).2, purL, rfl, rfl, rfl, (fun h => nomatch h), by show 6 < 100; decide, by omega⟩, by exact ⟨rfl, rfl, rfl, trivial⟩⟩, ?_⟩
          show ((ofS purL (rSm v).2 j).1 ++ [_]).map PyData.int = _
          rw [List.map_append]; rfl
        rw [irange_len]
        show Rn _ _ [.o (some p) (Uf K (rPu v).2), .u, .d (.list ((rTags v).map .str)), .o none (Lf K ((rSm v).1.map .int)), .o none (Lf K ((rPu v).1.map .int)), .u, .u, .u] _
        refine rn_frz 3 (rn_frz 4 ?_)
        have t5 := R.t5
        let envs4 : Nat → List Sd := fun j => [.o (some p) (Uf K (tkS (rTags v).length (rT5 v).2 j).2), .u, .d (.list ((rTags v).map .str)), .d (.list ((rSm v).1.map .int)), .d (.list ((rPu v).1.map .int)), .u, .u, .u]
        refine rn_cons (r1_set 5 (Ev.dc (d2 := .tuple ((rSt v).1.map fun (k : Nat) => .int k)) (ev_tupL B.tuple (ed1 (.frz (ev_lc (tg := _) [("_law_lap", 7)] envs4 (fun j => (tkS (rTags v).length (rT5 v).2 j).1.map fun (k : Nat) => .int k) sc36.nd (ei_range1 (n := (rT5 v).1) B.range (ed1 (ev_fB 0 0 T hr (by decide) (el_b 0 (el1 (ev_int (i := 5)))) ⟨(rPu v).2, 5, rfl, rfl, rfl, by decide, by decide, by omega⟩)) (by omega) (by omega)) (blkOk_by (N := N36) (sc := defScope (topS 36)) (by decide +kernel)) (by exact ⟨rfl, rfl, rfl, rfl, trivial⟩) (fun i => AllU.get (vs := [7]) ⟨rfl, trivial⟩) rfl (by rw [irange_len]; omega) fun j d hd => ?_)))) ?_) sc36.nd) ?_
        · obtain ⟨hj, rfl⟩ := irange_get hd
          have hc := (tkS_facts hpos (rT5 v).2 j).2.1
          have tj := takeF_in (u := (tkS (rTags v).length (rT5 v).2 j).2) (low := (rTags v).length) (by omega)
          refine ⟨some (.int (((takeF (tkS (rTags v).length (rT5 v).2 j).2 (rTags v).length).1.toNat : Nat) : Int)), ⟨_, fun _ _ _ _ _ => tg_name 7 sc36.nd, _, _, fun _ _ _ _ _ => ep_nil, fun _ _ _ _ _ => Ev.dc (ev_fB 0 0 T hr (by decide) (el_b 0 (el1 (Ev.dc (ev_lenL (ds := (rTags v).map .str) B.len (ed1 (ev 2))) (by rw [List.length_map])))) ⟨(tkS (rTags v).length (rT5 v).2 j).2, (rTags v).length, rfl, rfl, rfl, by omega, by omega, by omega⟩) (congrArg PyData.int (by omega)), by exact ⟨rfl, rfl, rfl, rfl, trivial⟩⟩, ?_⟩
          show ((tkS (rTags v).length (rT5 v).2 j).1 ++ [_]).map (fun (k : Nat) => PyData.int k) = _
          rw [List.map_append]; rfl
        · show PyData.tuple ((tkS (rTags v).length (rT5 v).2 (irange 0 (rT5 v).1.toNat).length).1.map fun (k : Nat) => .int k) = _
          rw [irange_len]; rfl
        show Rn _ _ [.o (some p) (Uf K (tkS (rTags v).length (rT5 v).2 (irange 0 (rT5 v).1.toNat).length).2), .u, .d (.list ((rTags v).map .str)), .d (.list ((rSm v).1.map .int)), .d (.list ((rPu v).1.map .int)), .d (.tuple ((rSt v).1.map fun (k : Nat) => .int k)), .u, .u] _
        rw [irange_len]
        refine rn_cons (r1_if (et_not (et_val (bb := true) (ev_f Al hr (Nat.le_refl _) (el_cons (ev 2) (el_cons (ev 3) (el_cons (ev 4) (el1 (ev 5))))) ⟨[.list ((rTags v).map .str), .list ((rSm v).1.map .int), .list ((rPu v).1.map .int), .tuple ((rSt v).1.map fun (k : Nat) => .int k)], rfl, rfl, rTags v, (rSm v).1, (rPu v).1, (rSt v).1, R.fam, R.s4, R.ss, rfl, rfl⟩))) (fun z => nomatch z) fun _ => rn_nil) ?_
        exact rn_nil.wk (by exact ⟨rfl, trivial⟩)
      · exact fin_ret ev_bl (by exact trivial)
end
end Ol
set_option Elab.async false
set_option linter.all false
set_option maxRecDepth 100000
set_option maxHeartbeats 4000000
/-! OlS1: same. -/
namespace Ol
open PySem L2
open Evl (Ex Ex.refl Ex.trans Ex.new ex_l ex_t fresh_back sz_of sz_lt)
section
variable {X : Cx} {env env1 : List Sd} {a : Expr} {pos : Pos} {d : PyData}
theorem et_isN {x : Bool} {j pos'} (ha : Ev X a env env1 (.d d)) (hx : ∀ H v, Dp X.K H v d → decide (v = .non) = x) : Et X (.Compare a [.Is] [.Constant .none j pos'] pos) env env1 x := fun β σ H H1 Q S q =>
  ttW.of (pt_cmp (pc_isN peW)) (ha β σ H H1 _ S fun v H' H2 S' ex R => by
    rw [hx H' v R.d]
    exact ⟨x, rfl, q H' H2 S'⟩)
end
def samK : Nat → PyData → Prop
  | k + 1, .tuple xs => xs.length ≤ 1000 ∧ ∀ x ∈ xs, samK k x
  | k + 1, .list xs => xs.length ≤ 1000 ∧ ∀ x ∈ xs, samK k x
  | _ + 1, .int _ => True
  | _ + 1, .str s => PyData.strOk s = true
  | _, _ => False
def d_same (k : Nat) (ds : List PyData) (r : Sd) : Prop := ∃ d, ds = [d, d] ∧ samK k d ∧ r = .d (.bool true)
abbrev N26 : List Str := ["_law_got", "_law_goal", "_law_mine_so", "_law_own"]
theorem true_all {l : List PyData} : l.filterMap trueG = (List.replicate l.length true).map .bool := by
  induction l with
  | nil => rfl
  | cons a l ih => exact congrArg (PyData.bool true :: ·) ih
theorem all_true {n : Nat} : (true && (List.replicate n true).all id) = true := by rw [Bool.true_and]; simp
theorem zip_same {xs : List PyData} {x : PyData} (h : x ∈ zipD xs xs) : ∃ y, y ∈ xs ∧ x = .tuple [y, y] := by
  obtain ⟨i, hi⟩ := List.mem_iff_getElem?.mp h
  obtain ⟨u, v, hu, hv, rfl⟩ := zipD_get hi
  rw [hu] at hv
  cases hv
  exact ⟨u, List.mem_of_getElem? hu, rfl⟩
theorem kits : kitB "list" "list" = some true ∧ kitB "list" "tuple" = some false ∧ kitB "int" "list" = some false ∧ kitB "int" "tuple" = some false ∧ kitB "str" "list" = some false ∧ kitB "str" "tuple" = some false ∧ kitB "int" "bool" = some false ∧ kitB "int" "str" = some false ∧ kitB "str" "bool" = some false ∧ kitB "str" "str" = some true ∧ kitB "int" "int" = some true := by decide +kernel
theorem boot_bool' : bootBuiltins "bool" = some (.type "bool") := by decide +kernel
theorem boot_str' : bootBuiltins "str" = some (.type "str") := by decide +kernel
section
variable {P : Program} {w : World} {K : PySem.W.Frag} {mg : Str → Option Value} {base : Heap}
theorem sc26 : FnScope N26 ["_law_got", "_law_goal"] (defScope (topS 26)) := ⟨rfl, rfl, rfl, by decide +kernel, rfl, by decide +kernel, by decide +kernel⟩
theorem dn_same {f : Addr} {fd : FuncData} (F : Fun K "_law_same" "_law_same" (topS 26) f fd) (hm : mg "_law_same" = some (.ref f)) (hb : Binds K fd ["_law_got", "_law_goal"] []) (B : Bl mg) : ∀ k, Dn P w K mg base "_law_same" ["_law_got", "_law_goal"] k (RelD (d_same k))
  | 0 => dn_mk F hm hb ⟨fun vs H Q E ⟨_, _, _, _, _, _, ⟨_, _, _, _, _, hs, _⟩, _⟩ => hs.elim, fun _ _ _ _ _ _ _ _ _ _ _ _ _ ⟨_, _, _, _, _, _, ⟨_, _, _, _, _, hs, _⟩, _⟩ => hs.elim⟩
  | k + 1 => by
    have D := dn_same F hm hb B k
    refine dn_mk F hm hb (fn_okD F sc26 (fun ds r h => by obtain ⟨_, rfl, _⟩ := h; rfl) fun cdv A outer s H E hr ds r h => ?_)
    obtain ⟨d, rfl, hs, rfl⟩ := h
    have hu64 := hr.units
    obtain ⟨k1, k2, k3, k4, k5, k6, k7, k8, k9, k10, k11⟩ := kits
    show Fin _ _ [.d d, .d d, .u, .u] [.u, .u, .u, .u] _
    cases d with
    | none => exact hs.elim
    | bool b => exact hs.elim
    | dict b => exact hs.elim
    | int n =>
      refine fin_ifN (et_val (ev_isi2 (tn := "list") (un := "tuple") (b1 := false) (b2 := false) B.isinstance B.list B.tuple boot_list' PyProof.Rows.boot_tuple (ev (d := .int n) 1) k3 k4)) rfl ?_
      refine fin_ifN (Ew.t (ew_or (et_isN (d := .int n) (x := false) (ev 1) fun H v hv => by rw [dp_int hv]; rfl) (fun _ => ew_one (et_val (ev_isi2 (tn := "bool") (un := "str") (b1 := false) (b2 := false) B.isinstance B.bool B.str boot_bool' boot_str' (ev (d := .int n) 1) k7 k8)) fun t h => pw_or1 h) fun _ => rfl)) rfl ?_
      exact fin_ret (Ev.dc (ev_and (x := true) (y := true) (ev_isi (tn := "int") B.isinstance B.int boot_int' (ev (d := .int n) 0) k11) (fun _ => Ev.dc (ev_and (x := true) (y := true) (Ev.dc (ev_not (ev_isi (tn := "bool") (bb := false) B.isinstance B.bool boot_bool' (ev (d := .int n) 0) k7)) rfl) (fun _ => ev_one (Ev.dc (ev_eq (ev (d := .int n) 0) (ev (d := .int n) 1) hu64 rfl rfl) (by rw [(Shp.int n).refl]))) fun _ => rfl) rfl) fun _ => rfl) rfl)
    | str z =>
      have sz : Shp 0 (.str z) := .str hs
      refine fin_ifN (et_val (ev_isi2 (tn := "list") (un := "tuple") (b1 := false) (b2 := false) B.isinstance B.list B.tuple boot_list' PyProof.Rows.boot_tuple (ev (d := .str z) 1) k5 k6)) rfl ?_
      exact fin_ifR (Ew.t (ew_or (et_isN (d := .str z) (x := false) (ev 1) fun H v hv => by rw [dp_str hv]; rfl) (fun _ => ew_one (et_val (ev_isi2 (tn := "bool") (un := "str") (b1 := false) (b2 := true) B.isinstance B.bool B.str boot_bool' boot_str' (ev (d := .str z) 1) k9 k10)) fun t h => pw_or1 h) fun _ => rfl)) rfl (Ev.dc (ev_and (x := true) (y := true) (Ev.dc (ev_eq (ev (d := .str z) 0) (ev (d := .str z) 1) hu64 sz.sh sz.sh) (by rw [sz.refl])) (fun _ => Ev.dc (ev_and (x := true) (y := true) (Ev.dc (ev_eq (d1 := .bool false) (d2 := .bool false) (ev_isi (tn := "bool") (bb := false) B.isinstance B.bool boot_bool' (ev (d := .str z) 0) k9) (ev_isi (tn := "bool") (bb := false) B.isinstance B.bool boot_bool' (ev (d := .str z) 1) k9) hu64 rfl rfl) rfl) (fun _ => ev_one (Ev.dc (ev_eq (d1 := .bool false) (d2 := .bool false) (ev_isN (d := .str z) (x := false) (ev 0) fun H v hv => by rw [dp_str hv]; rfl) (ev_isN (d := .str z) (x := false) (ev 1) fun H v hv => by rw [dp_str hv]; rfl) hu64 rfl rfl) rfl)) fun _ => rfl) rfl) fun _ => rfl) rfl)
    | list xs =>
      refine fin_ifB (et_val (ev_isi2 (tn := "list") (un := "tuple") (b1 := true) (b2 := false) B.isinstance B.list B.tuple boot_list' PyProof.Rows.boot_tuple (ev (d := .list xs) 1) k1 k2)) rfl ?_
      refine finr_cons (r1_if (bb := false) (Ew.t (ew_or (x := false) (y := false) (Et_c (et_ne (d1 := .bool true) (d2 := .bool true) (ev_isi (tn := "list") (bb := true) B.isinstance B.list boot_list' (ev (d := .list xs) 0) k1) (ev_isi (tn := "list") (bb := true) B.isinstance B.list boot_list' (ev (d := .list xs) 1) k1) hu64 rfl rfl) rfl) (fun _ => ew_one (Et_c (et_ne (d1 := .bool false) (d2 := .bool false) (ev_isi (tn := "tuple") (bb := false) B.isinstance B.tuple PyProof.Rows.boot_tuple (ev (d := .list xs) 0) k2) (ev_isi (tn := "tuple") (bb := false) B.isinstance B.tuple PyProof.Rows.boot_tuple (ev (d := .list xs) 1) k2) hu64 rfl rfl) rfl) fun t h => pw_or1 h) fun _ => rfl)) (fun z => nomatch z) fun _ => rn_nil) ?_
      refine finr_ret (Ev.dc (ev_and (x := true) (y := (List.replicate (zipD xs xs).length true).all id) (Ev.dc (ev_eq (ev_lenL (ds := xs) B.len (ed1 (ev 0))) (ev_lenL (ds := xs) B.len (ed1 (ev 1))) hu64 rfl rfl) (by rw [(Shp.int _).refl])) (fun _ => ev_one (ev_all (bs := List.replicate (zipD xs xs).length true) B.all (ed1 (Ev.dc (.frz (ev_lcq [.d (.list xs), .d (.list xs), .u, .u] [("_law_mine_so", 2), ("_law_own", 3)] trueG sc26.nd (ei_zipL B.zip (ed2 (ev 0) (ev 1))) (blkOk_by (N := N26) (sc := defScope (topS 26)) (by decide +kernel)) (by rw [zipD_len, Nat.min_self]; have := hs.1; omega) (fun x hx => ?_) ⟨rfl, rfl, trivial⟩)) (congrArg PyData.list true_all))))) fun _ => rfl) (congrArg PyData.bool all_true))
      obtain ⟨y, hy, rfl⟩ := zip_same hx
      exact lct_two 2 3 rfl rfl (fun _ _ _ _ _ => tg_tup (tgs_cons (tg_name 2 sc26.nd) (tgs_cons (tg_name 3 sc26.nd) tgs_nil))) fun _ _ _ _ _ => ev_f D hr (Nat.le_refl _) (el_cons (ev 2) (el1 (ev 3))) ⟨[y, y], rfl, rfl, y, rfl, hs.2 y hy, rfl⟩
    | tuple xs =>
      refine fin_ifB (et_val (ev_isi2 (tn := "list") (un := "tuple") (b1 := false) (b2 := true) B.isinstance B.list B.tuple boot_list' PyProof.Rows.boot_tuple (ev (d := .tuple xs) 1) kit_tl kit_tt)) rfl ?_
      refine finr_cons (r1_if (bb := false) (Ew.t (ew_or (x := false) (y := false) (Et_c (et_ne (d1 := .bool false) (d2 := .bool false) (ev_isi (tn := "list") (bb := false) B.isinstance B.list boot_list' (ev (d := .tuple xs) 0) kit_tl) (ev_isi (tn := "list") (bb := false) B.isinstance B.list boot_list' (ev (d := .tuple xs) 1) kit_tl) hu64 rfl rfl) rfl) (fun _ => ew_one (Et_c (et_ne (d1 := .bool true) (d2 := .bool true) (ev_isi (tn := "tuple") (bb := true) B.isinstance B.tuple PyProof.Rows.boot_tuple (ev (d := .tuple xs) 0) kit_tt) (ev_isi (tn := "tuple") (bb := true) B.isinstance B.tuple PyProof.Rows.boot_tuple (ev (d := .tuple xs) 1) kit_tt) hu64 rfl rfl) rfl) fun t h => pw_or1 h) fun _ => rfl)) (fun z => nomatch z) fun _ => rn_nil) ?_
      refine finr_ret (Ev.dc (ev_and (x := true) (y := (List.replicate (zipD xs xs).length true).all id) (Ev.dc (ev_eq (ev_lenT (ds := xs) B.len (ed1 (ev 0))) (ev_lenT (ds := xs) B.len (ed1 (ev 1))) hu64 rfl rfl) (by rw [(Shp.int _).refl])) (fun _ => ev_one (ev_all (bs := List.replicate (zipD xs xs).length true) B.all (ed1 (Ev.dc (.frz (ev_lcq [.d (.tuple xs), .d (.tuple xs), .u, .u] [("_law_mine_so", 2), ("_law_own", 3)] trueG sc26.nd (ei_zipT B.zip (ed2 (ev 0) (ev 1))) (blkOk_by (N := N26) (sc := defScope (topS 26)) (by decide +kernel)) (by rw [zipD_len, Nat.min_self]; have := hs.1; omega) (fun x hx => ?_) ⟨rfl, rfl, trivial⟩)) (congrArg PyData.list true_all))))) fun _ => rfl) (congrArg PyData.bool all_true))
      obtain ⟨y, hy, rfl⟩ := zip_same hx
      exact lct_two 2 3 rfl rfl (fun _ _ _ _ _ => tg_tup (tgs_cons (tg_name 2 sc26.nd) (tgs_cons (tg_name 3 sc26.nd) tgs_nil))) fun _ _ _ _ _ => ev_f D hr (Nat.le_refl _) (el_cons (ev 2) (el1 (ev 3))) ⟨[y, y], rfl, rfl, y, rfl, hs.2 y hy, rfl⟩
end
end Ol
set_option Elab.async false
set_option linter.all false
set_option maxRecDepth 100000
set_option maxHeartbeats 4000000
/-! OlS2: host. -/
namespace Ol
open PySem L2
open Evl (Ex Ex.refl Ex.trans Ex.new ex_l ex_t fresh_back sz_of sz_lt)
abbrev sA : Str := "a"
abbrev sB : Str := "b"
abbrev sC : Str := "c"
abbrev sX : Str := "x"
abbrev sY : Str := "y"
abbrev sZ : Str := "z"
def flatS : Str := "a b c | x a b c | y b c a | z c a b"
def barS : Str := " | "
def spS : Str := " "
def rowsH : List (Str × Str × List Str) := [("x a b c", sX, [sA, sB, sC]), ("y b c a", sY, [sB, sC, sA]), ("z c a b", sZ, [sC, sA, sB])]
def abcL : List Str := [sA, sB, sC]
def firstS : Str := "a b c"
theorem split_flat : Txt.split flatS barS = firstS :: rowsH.map (·.1) := by decide +kernel
theorem split_first : Txt.split firstS spS = abcL := by decide +kernel
theorem split_rows : ∀ t ∈ rowsH, Txt.split t.1 spS = t.2.1 :: t.2.2 ∧ t.1.length ≤ 90000 := by decide +kernel
theorem srt_abc : srtS abcL = abcL := by decide +kernel
def farB : Bk := ⟨abcL, rowsH.map (·.2)⟩
theorem far_nd : ((rowsH.map (·.2)).map (·.1)).Nodup := by decide +kernel
theorem far_srt : srt (fun q : Str × PyData => q.1) ((rowsH.map (·.2)).map fun q => (q.1, rowD q.2)) = (rowsH.map (·.2)).map fun q => (q.1, rowD q.2) := by
  have : srt (fun q : Str × List Str => q.1) (rowsH.map (·.2)) = rowsH.map (·.2) := by decide +kernel
  exact (srt_map (fun q : Str × PyData => q.1) (fun q : Str × List Str => (q.1, rowD q.2)) (rowsH.map (·.2))).trans (congrArg _ this)
def d_host (ds : List PyData) (r : Sd) : Prop := ds = [.str flatS] ∧ r = .d farB.d
abbrev N29 : List Str := ["_law_flat", "_law_bits", "_law_found", "_law_piece", "_law_words_so"]
section
variable {P : Program} {w : World} {K : PySem.W.Frag} {mg : Str → Option Value} {base : Heap}
theorem sc29 : FnScope N29 ["_law_flat"] (defScope (topS 29)) := ⟨rfl, rfl, rfl, by decide +kernel, rfl, by decide +kernel, by decide +kernel⟩
theorem ok_host {f : Addr} {fd : FuncData} (F : Fun K "_law_host" "_law_host" (topS 29) f fd) (B : Bl mg) : FnOk P w K mg base CX0 1 f fd ["_law_flat"] (spD K (RelD d_host)) := by
  refine fn_okD F sc29 (fun ds r h => by obtain ⟨rfl, _⟩ := h; rfl) fun cdv A outer s H E hr ds r h => ?_
  obtain ⟨rfl, rfl⟩ := h
  show Fin _ _ [.d (.str flatS), .u, .u, .u, .u] [.u, .u, .u, .u, .u] _
  have w1 : (barS.length == 0) = false := by decide +kernel
  have w2 : (spS.length == 0) = false := by decide +kernel
  refine fin_cons (r1_par 1 2 (r1 := .o none (Lf K ((firstS :: rowsH.map (·.1)).map .str))) (el_cons (Ev.cast (ev_split (z := flatS) (w := barS) w1 (by decide +kernel) (ev 0) ev_str) (by rw [split_flat]; rfl)) (el1 (ev_lst ed_nil))) sc29.nd) ?_
  refine fin_frz 1 ?_ rfl
  let envs : Nat → List Sd := fun i => [.d (.str flatS), .d (.list ((firstS :: rowsH.map (·.1)).map .str)), .o none (Lf K (((rowsH.take i).map fun t => (t.2.1, rowD t.2.2)).map pairD)), .u, .u]
  refine fin_cons (r1_for (ds := (rowsH.map (·.1)).map .str) [3] envs PassesOwn.never (ei_list (Ev.dc (.frz (ev_slL (l := some ((1 : Nat) : Int)) (h := none) (ds := (firstS :: rowsH.map (·.1)).map .str) (ev 1) (eo_some ev_int) eo_none)) (by rw [cutD_from]; rfl))) (by exact ⟨rfl, rfl, rfl, trivial⟩) fun i dd hdd => ?_) ?_
  · obtain ⟨t, ht, rfl⟩ : ∃ t, rowsH[i]? = some t ∧ dd = .str t.1 := by
      rw [List.getElem?_map, List.getElem?_map] at hdd
      cases q : rowsH[i]? with
      | none => rw [q] at hdd; cases hdd
      | some c => rw [q] at hdd; cases hdd; exact ⟨c, rfl, rfl⟩
    obtain ⟨s1, s2⟩ := split_rows t (List.mem_of_getElem? ht)
    have hi : i < 3 := (List.getElem?_eq_some_iff.mp ht).1
    refine ⟨_, tg_name 3 sc29.nd, ?_⟩
    refine rn_cons (r1_set 4 (Ev.cast (r' := .o none (Lf K ((t.2.1 :: t.2.2).map .str))) (ev_split (z := t.1) (w := spS) w2 s2 (ev 3) ev_str) (by rw [s1]; rfl)) sc29.nd) ?_
    refine rn_frz 4 ?_ rfl
    refine rn_cons (r1_app 2 (d := pairD (t.2.1, rowD t.2.2)) (ev_tup (ed2 (ev_ixl (i := ((0 : Nat) : Int)) (d := .str t.2.1) (ds := (t.2.1 :: t.2.2).map .str) (atI_nat rfl) (ev 4) ev_int) (Ev.dc (d2 := rowD t.2.2) (ev_tupL B.tuple (ed1 (.frz (ev_slL (l := some ((1 : Nat) : Int)) (h := none) (ds := (t.2.1 :: t.2.2).map .str) (ev 4) (eo_some ev_int) eo_none)))) (by rw [cutD_from]; rfl)))) rfl rfl (by rw [List.length_map, List.length_map, List.length_take]; omega)) ?_
    refine rn_nil.wk ?_
    show Wk [_, _, .o none (Lf K (((rowsH.take i).map fun t => (t.2.1, rowD t.2.2)).map pairD ++ [pairD (t.2.1, rowD t.2.2)])), _, _] [.d (.str flatS), .d (.list ((firstS :: rowsH.map (·.1)).map .str)), .o none (Lf K (((rowsH.take (i + 1)).map fun t => (t.2.1, rowD t.2.2)).map pairD)), .u, .u]
    rw [(take_cut ht).2, List.map_append, List.map_append]
    exact ⟨rfl, rfl, rfl, trivial⟩
  · have e3 : ((rowsH.map (·.1)).map PyData.str).length = 3 := rfl
    rw [e3]
    show Fin _ _ [.d (.str flatS), .d (.list ((firstS :: rowsH.map (·.1)).map .str)), .o none (Lf K (((rowsH.map (·.2)).map fun q => (q.1, rowD q.2)).map pairD)), .u, .u] _ _
    refine fin_frz 2 ?_ rfl
    refine fin_ret (Ev.dc (ev_tup (ed2 (ev_tupL B.tuple (ed1 (.frz (ev_srtS (ns := abcL) (by decide) B.sorted (ed1 (Ev.dc (.frz (ev_split (z := firstS) (w := spS) w2 (by decide +kernel) (ev_ixl (i := 0) (ds := (firstS :: rowsH.map (·.1)).map .str) rfl (ev 1) ev_int) ev_str)) (by rw [split_first]))))))) (ev_tupL B.tuple (ed1 (.frz (ev_srtPT (ks := (rowsH.map (·.2)).map fun q => (q.1, rowD q.2)) B.sorted (by rw [List.map_map]; exact far_nd) (ed1 (ev 2)))))))) ?_)
    rw [srt_abc, far_srt]
    rfl
end
end Ol
set_option Elab.async false
set_option linter.all false
set_option maxRecDepth 100000
set_option maxHeartbeats 4000000
/-! OlS3: by hand. -/
namespace Ol
open PySem L2
open Evl (Ex Ex.refl Ex.trans Ex.new ex_l ex_t fresh_back sz_of sz_lt)
abbrev N35 : List Str := ["_law_far", "_law_ones_so", "_law_got", "_law_goal", "_law_some", "_law_own"]
abbrev one1 : Str → Int := fun _ => 1
def psA : List (Str × Int) := [(sY, 1), (sY, 1)]
def psB : List (Str × Int) := [(sZ, 1), (sY, 2)]
def psC : List (Str × Int) := [(sZ, 2), (sX, 3)]
theorem far_ok : farB.Ok := ⟨far_nd, by decide +kernel, by decide +kernel⟩
theorem far_sit {ps : List (Str × Int)} (h1 : ps.length ≤ 20) (h2 : ∀ x ∈ ps.map (·.1), x ∈ farB.rows.map (·.1)) : Sit farB abcL ps where
  ok := far_ok
  nd := by decide +kernel
  rise := by have := srt_rise id abcL; exact srt_abc ▸ this
  len := by decide
  pl := h1
  pay q h := h2 _ (List.mem_map.mpr ⟨q, h, rfl⟩)
  sub := by decide +kernel
theorem sitA : Sit farB abcL psA := far_sit (by decide) (by decide +kernel)
theorem sitB : Sit farB abcL psB := far_sit (by decide) (by decide +kernel)
theorem sitC : Sit farB abcL psC := far_sit (by decide) (by decide +kernel)
theorem rowX : rowOf farB sX = [sA] ++ [sB, sC] := by decide +kernel
theorem rowY : rowOf farB sY = [sB, sC, sA] := by decide +kernel
theorem rowZ : rowOf farB sZ = [sC] ++ [sA, sB] := by decide +kernel
theorem compZX : Comp (rowOf farB sZ) (rowOf farB sX) := by
  rw [rowX, rowZ]
  exact comp_rot (a := [sC]) (b := [sA, sB]) (by
    have : ∀ x ∈ [sC], x ∉ [sA, sB] := by decide +kernel
    exact fun x h1 h2 => this x h1 h2)
theorem agA : Agree farB psA := ⟨fun i j hi hj => by
  have hi : i < 2 := hi
  have hj : j < 2 := hj
  match i, hi, j, hj with
  | 0, _, 0, _ => exact Comp.refl _
  | 0, _, 1, _ => exact Comp.refl _
  | 1, _, 0, _ => exact Comp.refl _
  | 1, _, 1, _ => exact Comp.refl _, fun i hi => by
  have hi : i < 2 := hi
  match i, hi with
  | 0, _ => decide
  | 1, _ => decide⟩
theorem agC : Agree farB psC := ⟨fun i j hi hj => by
  have hi : i < 2 := hi
  have hj : j < 2 := hj
  match i, hi, j, hj with
  | 0, _, 0, _ => exact Comp.refl _
  | 0, _, 1, _ => exact compZX
  | 1, _, 0, _ => exact compZX.symm
  | 1, _, 1, _ => exact Comp.refl _, fun i hi => by
  have hi : i < 2 := hi
  match i, hi with
  | 0, _ => decide
  | 1, _ => decide⟩
theorem valA : dAt farB psA (List.range 2) one1 sA = 1 ∧ dAt farB psA (List.range 2) one1 sB = 0 ∧ dAt farB psA (List.range 2) one1 sC = 0 := by decide +kernel
theorem valB : dAt farB psB [1, 0] one1 sA = 0 ∧ dAt farB psB [1, 0] one1 sB = 0 ∧ dAt farB psB [1, 0] one1 sC = 0 := by decide +kernel
theorem valC : dAt farB psC (List.range 2) one1 sA = 0 ∧ dAt farB psC (List.range 2) one1 sB = 0 ∧ dAt farB psC (List.range 2) one1 sC = 0 := by decide +kernel
def t3 (x y z : Int) : PyData := .tuple [numP (sA, x), numP (sB, y), numP (sC, z)]
theorem due3 {d : Str → Int} {x y z : Int} (h : d sA = x ∧ d sB = y ∧ d sC = z) : dueT abcL d = t3 x y z := by
  obtain ⟨h1, h2, h3⟩ := h
  show PyData.tuple [numP (sA, d sA), numP (sB, d sB), numP (sC, d sC)] = _
  rw [h1, h2, h3]; rfl
def goalD : List PyData := [.list [t3 1 0 0], t3 0 0 0, .list [t3 0 0 0]]
theorem sam_num {k : Nat} {q : Str × Int} (h : PyData.strOk q.1 = true) : samK (k + 2) (numP q) := ⟨by show 2 ≤ 1000; decide, fun x hx => by
  rcases List.mem_cons.mp hx with rfl | hx
  · exact h
  · rw [List.mem_singleton.mp hx]; exact trivial⟩
theorem sam_t3 {k : Nat} {x y z : Int} : samK (k + 3) (t3 x y z) := ⟨by show 3 ≤ 1000; decide, fun d hd => by
  have : d = numP (sA, x) ∨ d = numP (sB, y) ∨ d = numP (sC, z) := by simpa using hd
  rcases this with rfl | rfl | rfl
  · exact sam_num (show PyData.strOk sA = true by decide +kernel)
  · exact sam_num (show PyData.strOk sB = true by decide +kernel)
  · exact sam_num (show PyData.strOk sC = true by decide +kernel)⟩
theorem sam_one {k : Nat} {d : PyData} (h : samK k d) : samK (k + 1) (.list [d]) := ⟨by show 1 ≤ 1000; decide, fun x hx => by rw [List.mem_singleton.mp hx]; exact h⟩
theorem sam_goal : samK 5 (.list goalD) := ⟨by show 3 ≤ 1000; decide, fun d hd => by
  have : d = .list [t3 1 0 0] ∨ d = t3 0 0 0 ∨ d = .list [t3 0 0 0] := by simpa [goalD] using hd
  rcases this with rfl | rfl | rfl
  · exact sam_one sam_t3
  · exact sam_t3
  · exact sam_one sam_t3⟩
abbrev CaseT := List Str × List Int × List Int × List Nat
def case1 : CaseT := (["f", "b", "zz", "a"], [2, 0, (10 : Int) ^ (40 : Int).toNat, 3], [1, 4, 0, 2], [2, 2, 1, 3])
def case2 : CaseT := (["x"], [5], [2, 0, 1, 9], [0, 0])
def case3 : CaseT := (["f", "e", "d", "c", "b", "a"], [1, 1, 2, 0, 3, 1], [3, 1, 2, 1], [5, 5, 0, 0])
def fedS : Str := "fedcba"
theorem signs_fed : signs fedS = case3.1 := by decide +kernel
def caseD (c : CaseT) : PyData := .tuple [.list (c.1.map .str), .list (c.2.1.map .int), .list (c.2.2.1.map .int), .tuple (c.2.2.2.map fun (k : Nat) => .int k)]
def CaseOk (c : CaseT) : Prop := Fam c.1 c.2.1 c.2.2.1 ∧ c.2.2.2.length ≤ 4 ∧ ∀ k ∈ c.2.2.2, k < c.1.length
theorem case_mk (c : CaseT) (h : c.1.Nodup ∧ 0 < c.1.length ∧ c.1.length ≤ 6 ∧ (∀ x ∈ c.1, PyData.strOk x = true) ∧ c.1.length = c.2.1.length ∧ (∀ x ∈ c.2.1, 0 ≤ x) ∧ c.2.2.1.length = 4 ∧ (∀ x ∈ c.2.2.1, 0 ≤ x) ∧ c.2.2.2.length ≤ 4 ∧ ∀ k ∈ c.2.2.2, k < c.1.length) : CaseOk c := by
  obtain ⟨h1, h2, h3, h4, h5, h6, h7, h8, h9, h10⟩ := h
  exact ⟨⟨⟨h1, h2, h3, h4⟩, h5, h6, h7, h8⟩, h9, h10⟩
theorem case1_ok : CaseOk case1 := case_mk _ (by decide +kernel)
theorem case2_ok : CaseOk case2 := case_mk _ (by decide +kernel)
theorem case3_ok : CaseOk case3 := case_mk _ (by decide +kernel)
section
variable {P : Program} {w : World} {K : PySem.W.Frag} {mg : Str → Option Value} {base : Heap}
theorem sc35 : FnScope N35 [] (defScope (topS 35)) := ⟨rfl, rfl, rfl, by decide +kernel, rfl, by decide +kernel, by decide +kernel⟩
theorem ok_hand {f : Addr} {fd : FuncData} (Fn : Fun K "_law_by_hand_right" "_law_by_hand_right" (topS 35) f fd) (B : Bl mg) (Ho : Dn P w K mg base "_law_host" ["_law_flat"] 1 (RelD d_host)) (En : Dn P w K mg base "ends" ["book", "dues", "payments"] 6 (RelD d_ends))
    (Eo : Dn P w K mg base "end_of" ["book", "dues", "payments", "order"] 8 (RelD d_end_of)) (Sa : Dn P w K mg base "_law_same" ["_law_got", "_law_goal"] 5 (RelD (d_same 5))) (Al : Dn P w K mg base "_law_all_right" ["_law_tags_here", "_law_sums_so", "_law_purses_so", "_law_starts_so"] 10 (RelD d_all)) :
    FnOk P w K mg base CX0 12 f fd [] (spD K (RelD d_hand)) := by
  refine fn_okD Fn sc35 (fun ds r h => by obtain ⟨rfl, _⟩ := h; rfl) fun cdv A outer s H E hr ds r h => ?_
  obtain ⟨rfl, rfl⟩ := h
  have hlim : CPow 10 40 := ⟨by decide, by decide, by decide⟩
  have nn1 : NN one1 := fun _ => by show (0 : Int) ≤ 1; decide
  show Fin _ _ [.u, .u, .u, .u, .u, .u] [.u, .u, .u, .u, .u, .u] _
  refine fin_cons (r1_par 0 1 (r1 := .d farB.d) (r2 := .d (dueT abcL one1)) (el_cons (ev_f Ho hr (by decide) (el1 (ev_str (i := flatS))) ⟨[.str flatS], rfl, rfl, rfl, rfl⟩) (el1 (Ev.dc (ev_tup (ed_cons (ev_tup (ed2 (ev_str (i := sA)) (ev_int (i := 1)))) (ed2 (ev_tup (ed2 (ev_str (i := sB)) (ev_int (i := 1)))) (ev_tup (ed2 (ev_str (i := sC)) (ev_int (i := 1))))))) rfl))) sc35.nd) ?_
  have eA : d_ends [farB.d, dueT abcL one1, paysD psA] (.d (.list [t3 1 0 0])) := by
    have := d_ends_mk sitA (by decide) agA nn1
    rw [show psA.length = 2 from rfl, due3 valA] at this
    exact this
  have eC : d_ends [farB.d, dueT abcL one1, paysD psC] (.d (.list [t3 0 0 0])) := by
    have := d_ends_mk sitC (by decide) agC nn1
    rw [show psC.length = 2 from rfl, due3 valC] at this
    exact this
  have eB : d_end_of [farB.d, dueT abcL one1, paysD psB, ordD [1, 0]] (.d (t3 0 0 0)) := ⟨farB, abcL, psB, one1, [1, 0], rfl, sitB, by decide, by decide, by rw [due3 valB]⟩
  refine fin_cons (r1_set 2 (ev_lst (ds := [.list [t3 1 0 0], t3 0 0 0]) (ed2 (ev_f En hr (by decide) (el_cons (ev 0) (el_cons (ev 1) (el1 (Ev.dc (d2 := paysD psA) (ev_tup (ed2 (ev_tup (ed2 (ev_str (i := sY)) (ev_int (i := 1)))) (ev_tup (ed2 (ev_str (i := sY)) (ev_int (i := 1)))))) rfl)))) ⟨[farB.d, dueT abcL one1, paysD psA], rfl, rfl, eA⟩)
    (ev_f Eo hr (by decide) (el_cons (ev 0) (el_cons (ev 1) (el_cons (Ev.dc (d2 := paysD psB) (ev_tup (ed2 (ev_tup (ed2 (ev_str (i := sZ)) (ev_int (i := 1)))) (ev_tup (ed2 (ev_str (i := sY)) (ev_int (i := 2)))))) rfl) (el1 (Ev.dc (d2 := ordD [1, 0]) (ev_tup (ed2 (ev_int (i := 1)) (ev_int (i := 0)))) rfl))))) ⟨[farB.d, dueT abcL one1, paysD psB, ordD [1, 0]], rfl, rfl, eB⟩))) sc35.nd) ?_
  refine fin_cons (r1_set 2 (ev_catO (ds := [.list [t3 1 0 0], t3 0 0 0]) (ds2 := [.list [t3 0 0 0]]) 2 (by exact Nat.le_of_ble_eq_true rfl) (ev_lst (ed1 (ev_f En hr (by decide) (el_cons (ev 0) (el_cons (ev 1) (el1 (Ev.dc (d2 := paysD psC) (ev_tup (ed2 (ev_tup (ed2 (ev_str (i := sZ)) (ev_int (i := 2)))) (ev_tup (ed2 (ev_str (i := sX)) (ev_int (i := 3)))))) rfl)))) ⟨[farB.d, dueT abcL one1, paysD psC], rfl, rfl, eC⟩)))) sc35.nd) ?_
  refine fin_frz 2 (ds := goalD) ?_ rfl
  refine fin_cons (r1_set 3 (ev_lst (ds := goalD) (ed_cons (.frz (ev_lst (ed1 (Ev.dc (d2 := t3 1 0 0) (ev_tup (ed_cons (ev_tup (ed2 (ev_str (i := sA)) (ev_int (i := 1)))) (ed2 (ev_tup (ed2 (ev_str (i := sB)) (ev_int (i := 0)))) (ev_tup (ed2 (ev_str (i := sC)) (ev_int (i := 0))))))) rfl)))) (ed2 (Ev.dc (d2 := t3 0 0 0) (ev_tup (ed_cons (ev_tup (ed2 (ev_str (i := sA)) (ev_int (i := 0)))) (ed2 (ev_tup (ed2 (ev_str (i := sB)) (ev_int (i := 0)))) (ev_tup (ed2 (ev_str (i := sC)) (ev_int (i := 0))))))) rfl)
    (.frz (ev_lst (ed1 (Ev.dc (d2 := t3 0 0 0) (ev_tup (ed_cons (ev_tup (ed2 (ev_str (i := sA)) (ev_int (i := 0)))) (ed2 (ev_tup (ed2 (ev_str (i := sB)) (ev_int (i := 0)))) (ev_tup (ed2 (ev_str (i := sC)) (ev_int (i := 0))))))) rfl))))))) sc35.nd) ?_
  refine fin_cons (r1_set 4 (ev_lst (ds := [caseD case1]) (ed1 (Ev.dc (d2 := caseD case1) (ev_tup (ed_cons (.frz (ev_lst (ed_cons ev_str (ed_cons ev_str (ed2 ev_str ev_str))))) (ed_cons (.frz (ev_lst (ed_cons ev_int (ed_cons ev_int (ed2 (ev_pow (i := 10) (j := 40) ev_int ev_int hlim) ev_int (hs := star_bin)))))) (ed2 (.frz (ev_lst (ed_cons ev_int (ed_cons ev_int (ed2 ev_int ev_int))))) (ev_tup (ed_cons ev_int (ed_cons ev_int (ed2 ev_int ev_int)))))))) rfl))) sc35.nd) ?_
  refine fin_cons (r1_set 4 (ev_catO (ds := [caseD case1]) (ds2 := [caseD case2]) 4 (by exact Nat.le_of_ble_eq_true rfl) (ev_lst (ds := [caseD case2]) (ed1 (Ev.dc (d2 := caseD case2) (ev_tup (ed_cons (.frz (ev_lst (ed1 ev_str))) (ed_cons (.frz (ev_lst (ed1 ev_int))) (ed2 (.frz (ev_lst (ed_cons ev_int (ed_cons ev_int (ed2 ev_int ev_int))))) (ev_tup (ed2 ev_int ev_int)))))) rfl)))) sc35.nd) ?_
  refine fin_cons (r1_set 4 (ev_catO (ds := [caseD case1, caseD case2]) (ds2 := [caseD case3]) 4 (by exact Nat.le_of_ble_eq_true rfl) (ev_lst (ds := [caseD case3]) (ed1 (Ev.dc (d2 := caseD case3) (ev_tup (ed_cons (.frz (ev_listS (z := fedS) (by decide +kernel) B.list (ed1 (ev_str (i := fedS))))) (ed_cons (.frz (ev_lst (ed_cons ev_int (ed_cons ev_int (ed_cons ev_int (ed_cons ev_int (ed2 ev_int ev_int))))))) (ed2 (.frz (ev_lst (ed_cons ev_int (ed_cons ev_int (ed2 ev_int ev_int))))) (ev_tup (ed_cons ev_int (ed_cons ev_int (ed2 ev_int ev_int)))))))) (by rw [signs_fed]; rfl))))) sc35.nd) ?_
  refine fin_frz 3 (ds := goalD) (fin_frz 4 (ds := [caseD case1, caseD case2, caseD case3]) ?_ rfl) rfl
  show Fin _ _ [.d farB.d, .d (dueT abcL one1), .d (.list goalD), .d (.list goalD), .d (.list [caseD case1, caseD case2, caseD case3]), .u] _ _
  refine fin_ret (Ev.dc (ev_and (x := true) (y := (List.replicate 3 true).all id) (ev_f Sa hr (by decide) (el_cons (ev 2) (el1 (ev 3))) ⟨[.list goalD, .list goalD], rfl, rfl, .list goalD, rfl, sam_goal, rfl⟩) (fun _ => ev_one (ev_all (bs := List.replicate 3 true) B.all (ed1 (Ev.dc (.frz (ev_lcq _ [("_law_own", 5)] trueG sc35.nd (ei_list (ds := [caseD case1, caseD case2, caseD case3]) (ev 4)) (blkOk_by (N := N35) (sc := defScope (topS 35)) (by decide +kernel)) (by show 3 ≤ 100000; decide) (fun x hx => ?_) ⟨rfl, trivial⟩)) rfl)))) fun _ => rfl) rfl)
  obtain ⟨c, rfl, hc⟩ : ∃ c, x = caseD c ∧ CaseOk c := by
    have : x = caseD case1 ∨ x = caseD case2 ∨ x = caseD case3 := by simpa only [List.mem_cons, List.not_mem_nil, or_false] using hx
    rcases this with h | h | h
    · exact ⟨_, h, case1_ok⟩
    · exact ⟨_, h, case2_ok⟩
    · exact ⟨_, h, case3_ok⟩
  obtain ⟨h1, h2, h3⟩ := hc
  exact lct_one 5 rfl (fun _ _ _ _ _ => tg_name 5 sc35.nd) fun _ _ _ _ _ => ev_f Al hr (by decide) (el_cons (ev_ixt (i := 0) (ds := [.list (c.1.map .str), .list (c.2.1.map .int), .list (c.2.2.1.map .int), .tuple (c.2.2.2.map fun (k : Nat) => .int k)]) rfl (ev 5) ev_int) (el_cons (ev_ixt (i := 1) (ds := [.list (c.1.map .str), .list (c.2.1.map .int), .list (c.2.2.1.map .int), .tuple (c.2.2.2.map fun (k : Nat) => .int k)]) rfl (ev 5) ev_int) (el_cons (ev_ixt (i := 2) (ds := [.list (c.1.map .str), .list (c.2.1.map .int), .list (c.2.2.1.map .int), .tuple (c.2.2.2.map fun (k : Nat) => .int k)]) rfl (ev 5) ev_int) (el1 (ev_ixt (i := 3) (ds := [.list (c.1.map .str), .list (c.2.1.map .int), .list (c.2.2.1.map .int), .tuple (c.2.2.2.map fun (k : Nat) => .int k)]) rfl (ev 5) ev_int)))))
    ⟨[.list (c.1.map .str), .list (c.2.1.map .int), .list (c.2.2.1.map .int), .tuple (c.2.2.2.map fun (k : Nat) => .int k)], rfl, rfl, c.1, c.2.1, c.2.2.1, c.2.2.2, h1, h2, h3, rfl, rfl⟩
end
end Ol
set_option Elab.async false
set_option linter.all false
set_option maxRecDepth 100000
set_option maxHeartbeats 4000000
/-! OlEnd: the end. -/
namespace Ol
open PySem L2
open Evl (Ex Ex.refl Ex.trans Ex.new ex_l ex_t fresh_back sz_of sz_lt)
theorem entry {K : PySem.W.Frag} {H : Hp} {a : Addr} {ns : List Int} {E : XK} (hl : ns.length ≤ 63) (hS : SqL K H a (ns.map V.int)) : spD K (RelD d_law) [.ref a] H (fun v _ => v = .bl true) E := by
  have nA : ∀ i p, ¬ OwnAt [some (.ref a)] [.d (.list (ns.map .int))] i p := fun i p ⟨_, b, φ, w2⟩ => by
    cases i with
    | zero => cases w2
    | succ i => cases w2
  refine ⟨H, [.d (.list (ns.map .int))], [.u], .d (.bool true), ⟨⟨rfl, fun i s h => ?_, fun i j p x y => (nA i p x).elim⟩, Ex.refl _, Ex.refl _, fun _ h => h, fun _ _ _ h => h, fun _ h _ => h, fun i p w' => (nA i p w').elim, fun i p φ w1 w2 => ?_⟩, rfl, ⟨[.list (ns.map .int)], rfl, rfl, ns, rfl, by omega, rfl⟩, fun v H' H2 T R => dp_bl R.d⟩
  · cases i with
    | zero => cases h; exact ⟨some (.ref a), rfl, _, rfl, .lst hS (dpa_ints ns)⟩
    | succ i => cases h
  · cases i with
    | zero => cases w2
    | succ i => cases w2
theorem all_mk {l : PySem.W.OpenLaw} {w : World} {K : PySem.W.Frag} {h : Heap} {mg : Str → Option Value} {fa f0 f1 f2 f3 f4 f5 f6 f7 f8 f9 f10 f11 f12 f13 f14 f15 f16 f17 f18 f19 f20 f21 f22 f23 f24 f25 f26 f27 f28 f29 f30 f31 : Addr} (X : K.In h) (G : h.Ns mainGlobals mg) (hfa : mg "law" = some (.ref fa))
    {od0 an0 od1 an1 od2 an2 od3 an3 od4 an4 od5 an5 od6 an6 od7 an7 od8 an8 od9 an9 od10 an10 od11 an11 od12 an12 od13 an13 od14 an14 od15 an15 od16 an16 od17 an17 od18 an18 od19 an19 od20 an20 od21 an21 od22 an22 od23 an23 od24 an24 od25 an25 od26 an26 od27 an27 od28 an28 od29 an29 od30 an30 od31 an31 : Option Addr} {sl0 sl1 sl2 sl3 sl4 sl5 sl6 sl7 sl8 sl9 sl10 sl11 sl12 sl13 sl14 sl15 sl16 sl17 sl18 sl19 sl20 sl21 sl22 sl23 sl24 sl25 sl26 sl27 sl28 sl29 sl30 sl31 : Array (Option Value)} {oc0 kV0 dc0 pm0 cd0 ct0 oc1 kV1 dc1 pm1 cd1 ct1 oc2 kV2 dc2 pm2 cd2 ct2 oc3 kV3 dc3 pm3 cd3 ct3 oc4 kV4 dc4 pm4 cd4 ct4 oc5 kV5 dc5 pm5 cd5 ct5 oc6 kV6 dc6 pm6 cd6 ct6 oc7 kV7 dc7 pm7 cd7 ct7 oc8 kV8 dc8 pm8 cd8 ct8 oc9 kV9 dc9 pm9 cd9 ct9 oc10 kV10 dc10 pm10 cd10 ct10 oc11 kV11 dc11 pm11 cd11 ct11 oc12 kV12 dc12 pm12 cd12 ct12 oc13 kV13 dc13 pm13 cd13 ct13 oc14 kV14 dc14 pm14 cd14 ct14 oc15 kV15 dc15 pm15 cd15 ct15 oc16 kV16 dc16 pm16 cd16 ct16 oc17 kV17 dc17 pm17 cd17 ct17 oc18 kV18 dc18 pm18 cd18 ct18 oc19 kV19 dc19 pm19 cd19 ct19 oc20 kV20 dc20 pm20 cd20 ct20 oc21 kV21 dc21 pm21 cd21 ct21 oc22 kV22 dc22 pm22 cd22 ct22 oc23 kV23 dc23 pm23 cd23 ct23 oc24 kV24 dc24 pm24 cd24 ct24 oc25 kV25 dc25 pm25 cd25 ct25 oc26 kV26 dc26 pm26 cd26 ct26 oc27 kV27 dc27 pm27 cd27 ct27 oc28 kV28 dc28 pm28 cd28 ct28 oc29 kV29 dc29 pm29 cd29 ct29 oc30 kV30 dc30 pm30 cd30 ct30 oc31 kV31 dc31 pm31 cd31 ct31 : Value}
    (a0 : PySem.W.nsIn K mainGlobals "set_of" = some (some (.ref f0))) (l0 : K.lookup f0 = some ⟨oc0, od0, .func (PySem.W.fnOf "set_of" "set_of" (defArgs (topS 3)) (defBody (topS 3)) (defScope (topS 3)) .none kV0 dc0 pm0 an0 cd0 ct0), sl0⟩) (c0 : PySem.W.codeIn K cd0 "set_of" = true) (k0 : PySem.W.keepIn K (.ref f0) = true)
    (a1 : PySem.W.nsIn K mainGlobals "tupled" = some (some (.ref f1))) (l1 : K.lookup f1 = some ⟨oc1, od1, .func (PySem.W.fnOf "tupled" "tupled" (defArgs (topS 4)) (defBody (topS 4)) (defScope (topS 4)) .none kV1 dc1 pm1 an1 cd1 ct1), sl1⟩) (c1 : PySem.W.codeIn K cd1 "tupled" = true) (k1 : PySem.W.keepIn K (.ref f1) = true)
    (a2 : PySem.W.nsIn K mainGlobals "payers" = some (some (.ref f2))) (l2 : K.lookup f2 = some ⟨oc2, od2, .func (PySem.W.fnOf "payers" "payers" (defArgs (topS 6)) (defBody (topS 6)) (defScope (topS 6)) .none kV2 dc2 pm2 an2 cd2 ct2), sl2⟩) (c2 : PySem.W.codeIn K cd2 "payers" = true) (k2 : PySem.W.keepIn K (.ref f2) = true)
    (a3 : PySem.W.nsIn K mainGlobals "lists_table" = some (some (.ref f3))) (l3 : K.lookup f3 = some ⟨oc3, od3, .func (PySem.W.fnOf "lists_table" "lists_table" (defArgs (topS 7)) (defBody (topS 7)) (defScope (topS 7)) .none kV3 dc3 pm3 an3 cd3 ct3), sl3⟩) (c3 : PySem.W.codeIn K cd3 "lists_table" = true) (k3 : PySem.W.keepIn K (.ref f3) = true)
    (a4 : PySem.W.nsIn K mainGlobals "check_payer" = some (some (.ref f4))) (l4 : K.lookup f4 = some ⟨oc4, od4, .func (PySem.W.fnOf "check_payer" "check_payer" (defArgs (topS 8)) (defBody (topS 8)) (defScope (topS 8)) .none kV4 dc4 pm4 an4 cd4 ct4), sl4⟩) (c4 : PySem.W.codeIn K cd4 "check_payer" = true) (k4 : PySem.W.keepIn K (.ref f4) = true)
    (a5 : PySem.W.nsIn K mainGlobals "list_of" = some (some (.ref f5))) (l5 : K.lookup f5 = some ⟨oc5, od5, .func (PySem.W.fnOf "list_of" "list_of" (defArgs (topS 9)) (defBody (topS 9)) (defScope (topS 9)) .none kV5 dc5 pm5 an5 cd5 ct5), sl5⟩) (c5 : PySem.W.codeIn K cd5 "list_of" = true) (k5 : PySem.W.keepIn K (.ref f5) = true)
    (a6 : PySem.W.nsIn K mainGlobals "lay_on" = some (some (.ref f6))) (l6 : K.lookup f6 = some ⟨oc6, od6, .func (PySem.W.fnOf "lay_on" "lay_on" (defArgs (topS 11)) (defBody (topS 11)) (defScope (topS 11)) .none kV6 dc6 pm6 an6 cd6 ct6), sl6⟩) (c6 : PySem.W.codeIn K cd6 "lay_on" = true) (k6 : PySem.W.keepIn K (.ref f6) = true)
    (a7 : PySem.W.nsIn K mainGlobals "sum_of" = some (some (.ref f7))) (l7 : K.lookup f7 = some ⟨oc7, od7, .func (PySem.W.fnOf "sum_of" "sum_of" (defArgs (topS 12)) (defBody (topS 12)) (defScope (topS 12)) .none kV7 dc7 pm7 an7 cd7 ct7), sl7⟩) (c7 : PySem.W.codeIn K cd7 "sum_of" = true) (k7 : PySem.W.keepIn K (.ref f7) = true)
    (a8 : PySem.W.nsIn K mainGlobals "first_open" = some (some (.ref f8))) (l8 : K.lookup f8 = some ⟨oc8, od8, .func (PySem.W.fnOf "first_open" "first_open" (defArgs (topS 13)) (defBody (topS 13)) (defScope (topS 13)) .none kV8 dc8 pm8 an8 cd8 ct8), sl8⟩) (c8 : PySem.W.codeIn K cd8 "first_open" = true) (k8 : PySem.W.keepIn K (.ref f8) = true)
    (a9 : PySem.W.nsIn K mainGlobals "paid" = some (some (.ref f9))) (l9 : K.lookup f9 = some ⟨oc9, od9, .func (PySem.W.fnOf "paid" "paid" (defArgs (topS 14)) (defBody (topS 14)) (defScope (topS 14)) .none kV9 dc9 pm9 an9 cd9 ct9), sl9⟩) (c9 : PySem.W.codeIn K cd9 "paid" = true) (k9 : PySem.W.keepIn K (.ref f9) = true)
    (a10 : PySem.W.nsIn K mainGlobals "walked" = some (some (.ref f10))) (l10 : K.lookup f10 = some ⟨oc10, od10, .func (PySem.W.fnOf "walked" "walked" (defArgs (topS 15)) (defBody (topS 15)) (defScope (topS 15)) .none kV10 dc10 pm10 an10 cd10 ct10), sl10⟩) (c10 : PySem.W.codeIn K cd10 "walked" = true) (k10 : PySem.W.keepIn K (.ref f10) = true)
    (a11 : PySem.W.nsIn K mainGlobals "along" = some (some (.ref f11))) (l11 : K.lookup f11 = some ⟨oc11, od11, .func (PySem.W.fnOf "along" "along" (defArgs (topS 16)) (defBody (topS 16)) (defScope (topS 16)) .none kV11 dc11 pm11 an11 cd11 ct11), sl11⟩) (c11 : PySem.W.codeIn K cd11 "along" = true) (k11 : PySem.W.keepIn K (.ref f11) = true)
    (a12 : PySem.W.nsIn K mainGlobals "end_of" = some (some (.ref f12))) (l12 : K.lookup f12 = some ⟨oc12, od12, .func (PySem.W.fnOf "end_of" "end_of" (defArgs (topS 17)) (defBody (topS 17)) (defScope (topS 17)) .none kV12 dc12 pm12 an12 cd12 ct12), sl12⟩) (c12 : PySem.W.codeIn K cd12 "end_of" = true) (k12 : PySem.W.keepIn K (.ref f12) = true)
    (a13 : PySem.W.nsIn K mainGlobals "ends" = some (some (.ref f13))) (l13 : K.lookup f13 = some ⟨oc13, od13, .func (PySem.W.fnOf "ends" "ends" (defArgs (topS 18)) (defBody (topS 18)) (defScope (topS 18)) .none kV13 dc13 pm13 an13 cd13 ct13), sl13⟩) (c13 : PySem.W.codeIn K cd13 "ends" = true) (k13 : PySem.W.keepIn K (.ref f13) = true)
    (a14 : PySem.W.nsIn K mainGlobals "given_back" = some (some (.ref f14))) (l14 : K.lookup f14 = some ⟨oc14, od14, .func (PySem.W.fnOf "given_back" "given_back" (defArgs (topS 19)) (defBody (topS 19)) (defScope (topS 19)) .none kV14 dc14 pm14 an14 cd14 ct14), sl14⟩) (c14 : PySem.W.codeIn K cd14 "given_back" = true) (k14 : PySem.W.keepIn K (.ref f14) = true)
    (a15 : PySem.W.nsIn K mainGlobals "sum_back" = some (some (.ref f15))) (l15 : K.lookup f15 = some ⟨oc15, od15, .func (PySem.W.fnOf "sum_back" "sum_back" (defArgs (topS 20)) (defBody (topS 20)) (defScope (topS 20)) .none kV15 dc15 pm15 an15 cd15 ct15), sl15⟩) (c15 : PySem.W.codeIn K cd15 "sum_back" = true) (k15 : PySem.W.keepIn K (.ref f15) = true)
    (a16 : PySem.W.nsIn K mainGlobals "_law_box" = some (some (.ref f16))) (l16 : K.lookup f16 = some ⟨oc16, od16, .func (PySem.W.fnOf "_law_box" "_law_box" (defArgs (topS 22)) (defBody (topS 22)) (defScope (topS 22)) .none kV16 dc16 pm16 an16 cd16 ct16), sl16⟩) (c16 : PySem.W.codeIn K cd16 "_law_box" = true) (k16 : PySem.W.keepIn K (.ref f16) = true)
    (a17 : PySem.W.nsIn K mainGlobals "_law_take" = some (some (.ref f17))) (l17 : K.lookup f17 = some ⟨oc17, od17, .func (PySem.W.fnOf "_law_take" "_law_take" (defArgs (topS 23)) (defBody (topS 23)) (defScope (topS 23)) .none kV17 dc17 pm17 an17 cd17 ct17), sl17⟩) (c17 : PySem.W.codeIn K cd17 "_law_take" = true) (k17 : PySem.W.keepIn K (.ref f17) = true)
    (a18 : PySem.W.nsIn K mainGlobals "_law_cells" = some (some (.ref f18))) (l18 : K.lookup f18 = some ⟨oc18, od18, .func (PySem.W.fnOf "_law_cells" "_law_cells" (defArgs (topS 24)) (defBody (topS 24)) (defScope (topS 24)) .none kV18 dc18 pm18 an18 cd18 ct18), sl18⟩) (c18 : PySem.W.codeIn K cd18 "_law_cells" = true) (k18 : PySem.W.keepIn K (.ref f18) = true)
    (a19 : PySem.W.nsIn K mainGlobals "_law_of" = some (some (.ref f19))) (l19 : K.lookup f19 = some ⟨oc19, od19, .func (PySem.W.fnOf "_law_of" "_law_of" (defArgs (topS 25)) (defBody (topS 25)) (defScope (topS 25)) .none kV19 dc19 pm19 an19 cd19 ct19), sl19⟩) (c19 : PySem.W.codeIn K cd19 "_law_of" = true) (k19 : PySem.W.keepIn K (.ref f19) = true)
    (a20 : PySem.W.nsIn K mainGlobals "_law_same" = some (some (.ref f20))) (l20 : K.lookup f20 = some ⟨oc20, od20, .func (PySem.W.fnOf "_law_same" "_law_same" (defArgs (topS 26)) (defBody (topS 26)) (defScope (topS 26)) .none kV20 dc20 pm20 an20 cd20 ct20), sl20⟩) (c20 : PySem.W.codeIn K cd20 "_law_same" = true) (k20 : PySem.W.keepIn K (.ref f20) = true)
    (a21 : PySem.W.nsIn K mainGlobals "_law_mixed" = some (some (.ref f21))) (l21 : K.lookup f21 = some ⟨oc21, od21, .func (PySem.W.fnOf "_law_mixed" "_law_mixed" (defArgs (topS 27)) (defBody (topS 27)) (defScope (topS 27)) .none kV21 dc21 pm21 an21 cd21 ct21), sl21⟩) (c21 : PySem.W.codeIn K cd21 "_law_mixed" = true) (k21 : PySem.W.keepIn K (.ref f21) = true)
    (a22 : PySem.W.nsIn K mainGlobals "_law_tags" = some (some (.ref f22))) (l22 : K.lookup f22 = some ⟨oc22, od22, .func (PySem.W.fnOf "_law_tags" "_law_tags" (defArgs (topS 28)) (defBody (topS 28)) (defScope (topS 28)) .none kV22 dc22 pm22 an22 cd22 ct22), sl22⟩) (c22 : PySem.W.codeIn K cd22 "_law_tags" = true) (k22 : PySem.W.keepIn K (.ref f22) = true)
    (a23 : PySem.W.nsIn K mainGlobals "_law_host" = some (some (.ref f23))) (l23 : K.lookup f23 = some ⟨oc23, od23, .func (PySem.W.fnOf "_law_host" "_law_host" (defArgs (topS 29)) (defBody (topS 29)) (defScope (topS 29)) .none kV23 dc23 pm23 an23 cd23 ct23), sl23⟩) (c23 : PySem.W.codeIn K cd23 "_law_host" = true) (k23 : PySem.W.keepIn K (.ref f23) = true)
    (a24 : PySem.W.nsIn K mainGlobals "_law_folk" = some (some (.ref f24))) (l24 : K.lookup f24 = some ⟨oc24, od24, .func (PySem.W.fnOf "_law_folk" "_law_folk" (defArgs (topS 30)) (defBody (topS 30)) (defScope (topS 30)) .none kV24 dc24 pm24 an24 cd24 ct24), sl24⟩) (c24 : PySem.W.codeIn K cd24 "_law_folk" = true) (k24 : PySem.W.keepIn K (.ref f24) = true)
    (a25 : PySem.W.nsIn K mainGlobals "_law_one_right" = some (some (.ref f25))) (l25 : K.lookup f25 = some ⟨oc25, od25, .func (PySem.W.fnOf "_law_one_right" "_law_one_right" (defArgs (topS 31)) (defBody (topS 31)) (defScope (topS 31)) .none kV25 dc25 pm25 an25 cd25 ct25), sl25⟩) (c25 : PySem.W.codeIn K cd25 "_law_one_right" = true) (k25 : PySem.W.keepIn K (.ref f25) = true)
    (a26 : PySem.W.nsIn K mainGlobals "_law_circle_right" = some (some (.ref f26))) (l26 : K.lookup f26 = some ⟨oc26, od26, .func (PySem.W.fnOf "_law_circle_right" "_law_circle_right" (defArgs (topS 32)) (defBody (topS 32)) (defScope (topS 32)) .none kV26 dc26 pm26 an26 cd26 ct26), sl26⟩) (c26 : PySem.W.codeIn K cd26 "_law_circle_right" = true) (k26 : PySem.W.keepIn K (.ref f26) = true)
    (a27 : PySem.W.nsIn K mainGlobals "_law_rest_right" = some (some (.ref f27))) (l27 : K.lookup f27 = some ⟨oc27, od27, .func (PySem.W.fnOf "_law_rest_right" "_law_rest_right" (defArgs (topS 33)) (defBody (topS 33)) (defScope (topS 33)) .none kV27 dc27 pm27 an27 cd27 ct27), sl27⟩) (c27 : PySem.W.codeIn K cd27 "_law_rest_right" = true) (k27 : PySem.W.keepIn K (.ref f27) = true)
    (a28 : PySem.W.nsIn K mainGlobals "_law_all_right" = some (some (.ref f28))) (l28 : K.lookup f28 = some ⟨oc28, od28, .func (PySem.W.fnOf "_law_all_right" "_law_all_right" (defArgs (topS 34)) (defBody (topS 34)) (defScope (topS 34)) .none kV28 dc28 pm28 an28 cd28 ct28), sl28⟩) (c28 : PySem.W.codeIn K cd28 "_law_all_right" = true) (k28 : PySem.W.keepIn K (.ref f28) = true)
    (a29 : PySem.W.nsIn K mainGlobals "_law_by_hand_right" = some (some (.ref f29))) (l29 : K.lookup f29 = some ⟨oc29, od29, .func (PySem.W.fnOf "_law_by_hand_right" "_law_by_hand_right" (defArgs (topS 35)) (defBody (topS 35)) (defScope (topS 35)) .none kV29 dc29 pm29 an29 cd29 ct29), sl29⟩) (c29 : PySem.W.codeIn K cd29 "_law_by_hand_right" = true) (k29 : PySem.W.keepIn K (.ref f29) = true)
    (a30 : PySem.W.nsIn K mainGlobals "_law_right" = some (some (.ref f30))) (l30 : K.lookup f30 = some ⟨oc30, od30, .func (PySem.W.fnOf "_law_right" "_law_right" (defArgs (topS 36)) (defBody (topS 36)) (defScope (topS 36)) .none kV30 dc30 pm30 an30 cd30 ct30), sl30⟩) (c30 : PySem.W.codeIn K cd30 "_law_right" = true) (k30 : PySem.W.keepIn K (.ref f30) = true)
    (a31 : PySem.W.nsIn K mainGlobals "law" = some (some (.ref f31))) (l31 : K.lookup f31 = some ⟨oc31, od31, .func (PySem.W.fnOf "law" "law" (defArgs (topS 37)) (defBody (topS 37)) (defScope (topS 37)) .none kV31 dc31 pm31 an31 cd31 ct31), sl31⟩) (c31 : PySem.W.codeIn K cd31 "law" = true) (k31 : PySem.W.keepIn K (.ref f31) = true)
    (z_len : PySem.W.nsIn K mainGlobals "len" = some none)
    (z_tuple : PySem.W.nsIn K mainGlobals "tuple" = some none)
    (z_sorted : PySem.W.nsIn K mainGlobals "sorted" = some none)
    (z_set : PySem.W.nsIn K mainGlobals "set" = some none)
    (z_isinstance : PySem.W.nsIn K mainGlobals "isinstance" = some none)
    (z_list : PySem.W.nsIn K mainGlobals "list" = some none)
    (z_dict : PySem.W.nsIn K mainGlobals "dict" = some none)
    (z_min : PySem.W.nsIn K mainGlobals "min" = some none)
    (z_max : PySem.W.nsIn K mainGlobals "max" = some none)
    (z_sum : PySem.W.nsIn K mainGlobals "sum" = some none)
    (z_zip : PySem.W.nsIn K mainGlobals "zip" = some none)
    (z_range : PySem.W.nsIn K mainGlobals "range" = some none)
    (z_enumerate : PySem.W.nsIn K mainGlobals "enumerate" = some none)
    (z_abs : PySem.W.nsIn K mainGlobals "abs" = some none)
    (z_int : PySem.W.nsIn K mainGlobals "int" = some none)
    (z_all : PySem.W.nsIn K mainGlobals "all" = some none)
    (z_bool : PySem.W.nsIn K mainGlobals "bool" = some none)
    (z_str : PySem.W.nsIn K mainGlobals "str" = some none)
    : ∃ fd : FuncData, (∀ (s : Shared) (v : Value), BindsTo s fd ⟨[v], []⟩ [("_law_script", v)]) ∧ ∀ base : Heap, K.In base → base.Ns mainGlobals mg → FnOk l.prog w K mg base CX0 13 fa fd ["_law_script"] (spD K (RelD d_law)) := by
  have e := hfa.symm.trans (PySem.W.mg_of X G a31)
  cases e
  have B : Bl mg := ⟨PySem.W.mg_none_of X G z_len, PySem.W.mg_none_of X G z_tuple, PySem.W.mg_none_of X G z_sorted, PySem.W.mg_none_of X G z_set, PySem.W.mg_none_of X G z_isinstance, PySem.W.mg_none_of X G z_list, PySem.W.mg_none_of X G z_dict, PySem.W.mg_none_of X G z_min, PySem.W.mg_none_of X G z_max, PySem.W.mg_none_of X G z_sum, PySem.W.mg_none_of X G z_zip, PySem.W.mg_none_of X G z_range, PySem.W.mg_none_of X G z_enumerate, PySem.W.mg_none_of X G z_abs, PySem.W.mg_none_of X G z_int, PySem.W.mg_none_of X G z_all, PySem.W.mg_none_of X G z_bool, PySem.W.mg_none_of X G z_str⟩
  have F0 := fun_mk (st := topS 3) l0 c0 k0
  have b0 := F0.binds (ps := ["some"]) fun _ _ _ _ _ _ us hl => match us, hl with | [_], _ => rfl
  have F1 := fun_mk (st := topS 4) l1 c1 k1
  have b1 := F1.binds (ps := ["value"]) fun _ _ _ _ _ _ us hl => match us, hl with | [_], _ => rfl
  have F2 := fun_mk (st := topS 6) l2 c2 k2
  have b2 := F2.binds (ps := ["book"]) fun _ _ _ _ _ _ us hl => match us, hl with | [_], _ => rfl
  have F3 := fun_mk (st := topS 7) l3 c3 k3
  have b3 := F3.binds (ps := ["book"]) fun _ _ _ _ _ _ us hl => match us, hl with | [_], _ => rfl
  have F4 := fun_mk (st := topS 8) l4 c4 k4
  have b4 := F4.binds (ps := ["book", "payer"]) fun _ _ _ _ _ _ us hl => match us, hl with | [_, _], _ => rfl
  have F5 := fun_mk (st := topS 9) l5 c5 k5
  have b5 := F5.binds (ps := ["book", "payer"]) fun _ _ _ _ _ _ us hl => match us, hl with | [_, _], _ => rfl
  have F6 := fun_mk (st := topS 11) l6 c6 k6
  have b6 := F6.binds (ps := ["row", "due", "amount"]) fun _ _ _ _ _ _ us hl => match us, hl with | [_, _, _], _ => rfl
  have F7 := fun_mk (st := topS 12) l7 c7 k7
  have b7 := F7.binds (ps := ["pairs"]) fun _ _ _ _ _ _ us hl => match us, hl with | [_], _ => rfl
  have F8 := fun_mk (st := topS 13) l8 c8 k8
  have b8 := F8.binds (ps := ["book", "dues", "payer"]) fun _ _ _ _ _ _ us hl => match us, hl with | [_, _, _], _ => rfl
  have F9 := fun_mk (st := topS 14) l9 c9 k9
  have b9 := F9.binds (ps := ["book", "dues", "payer", "amount"]) fun _ _ _ _ _ _ us hl => match us, hl with | [_, _, _, _], _ => rfl
  have F10 := fun_mk (st := topS 15) l10 c10 k10
  have b10 := F10.binds (ps := ["book", "dues", "payments", "order"]) fun _ _ _ _ _ _ us hl => match us, hl with | [_, _, _, _], _ => rfl
  have F11 := fun_mk (st := topS 16) l11 c11 k11
  have b11 := F11.binds (ps := ["book", "dues", "payments", "order"]) fun _ _ _ _ _ _ us hl => match us, hl with | [_, _, _, _], _ => rfl
  have F12 := fun_mk (st := topS 17) l12 c12 k12
  have b12 := F12.binds (ps := ["book", "dues", "payments", "order"]) fun _ _ _ _ _ _ us hl => match us, hl with | [_, _, _, _], _ => rfl
  have F13 := fun_mk (st := topS 18) l13 c13 k13
  have b13 := F13.binds (ps := ["book", "dues", "payments"]) fun _ _ _ _ _ _ us hl => match us, hl with | [_, _, _], _ => rfl
  have F14 := fun_mk (st := topS 19) l14 c14 k14
  have b14 := F14.binds (ps := ["book", "dues", "payments", "order"]) fun _ _ _ _ _ _ us hl => match us, hl with | [_, _, _, _], _ => rfl
  have F15 := fun_mk (st := topS 20) l15 c15 k15
  have b15 := F15.binds (ps := ["book", "dues", "payments", "order"]) fun _ _ _ _ _ _ us hl => match us, hl with | [_, _, _, _], _ => rfl
  have F16 := fun_mk (st := topS 22) l16 c16 k16
  have b16 := F16.binds (ps := ["_law_script", "_law_k"]) fun _ _ _ _ _ _ us hl => match us, hl with | [_, _], _ => rfl
  have F17 := fun_mk (st := topS 23) l17 c17 k17
  have b17 := F17.binds (ps := ["_law_urn", "_law_low_so"]) fun _ _ _ _ _ _ us hl => match us, hl with | [_, _], _ => rfl
  have F18 := fun_mk (st := topS 24) l18 c18 k18
  have b18 := F18.binds (ps := ["_law_script", "_law_top"]) fun _ _ _ _ _ _ us hl => match us, hl with | [_, _], _ => rfl
  have F19 := fun_mk (st := topS 25) l19 c19 k19
  have b19 := F19.binds (ps := ["_law_urn", "_law_some_so"]) fun _ _ _ _ _ _ us hl => match us, hl with | [_, _], _ => rfl
  have F20 := fun_mk (st := topS 26) l20 c20 k20
  have b20 := F20.binds (ps := ["_law_got", "_law_goal"]) fun _ _ _ _ _ _ us hl => match us, hl with | [_, _], _ => rfl
  have F21 := fun_mk (st := topS 27) l21 c21 k21
  have b21 := F21.binds (ps := ["_law_urn", "_law_pool"]) fun _ _ _ _ _ _ us hl => match us, hl with | [_, _], _ => rfl
  have F22 := fun_mk (st := topS 28) l22 c22 k22
  have b22 := F22.binds (ps := ["_law_urn", "_law_many_so"]) fun _ _ _ _ _ _ us hl => match us, hl with | [_, _], _ => rfl
  have F23 := fun_mk (st := topS 29) l23 c23 k23
  have b23 := F23.binds (ps := ["_law_flat"]) fun _ _ _ _ _ _ us hl => match us, hl with | [_], _ => rfl
  have F24 := fun_mk (st := topS 30) l24 c24 k24
  have b24 := F24.binds (ps := ["_law_tags_here", "_law_lists_so"]) fun _ _ _ _ _ _ us hl => match us, hl with | [_, _], _ => rfl
  have F25 := fun_mk (st := topS 31) l25 c25 k25
  have b25 := F25.binds (ps := ["_law_tags_here", "_law_sums_so", "_law_purses_so"]) fun _ _ _ _ _ _ us hl => match us, hl with | [_, _, _], _ => rfl
  have F26 := fun_mk (st := topS 32) l26 c26 k26
  have b26 := F26.binds (ps := ["_law_tags_here", "_law_starts_so"]) fun _ _ _ _ _ _ us hl => match us, hl with | [_, _], _ => rfl
  have F27 := fun_mk (st := topS 33) l27 c27 k27
  have b27 := F27.binds (ps := ["_law_tags_here", "_law_sums_so", "_law_purses_so"]) fun _ _ _ _ _ _ us hl => match us, hl with | [_, _, _], _ => rfl
  have F28 := fun_mk (st := topS 34) l28 c28 k28
  have b28 := F28.binds (ps := ["_law_tags_here", "_law_sums_so", "_law_purses_so", "_law_starts_so"]) fun _ _ _ _ _ _ us hl => match us, hl with | [_, _, _, _], _ => rfl
  have F29 := fun_mk (st := topS 35) l29 c29 k29
  have b29 := F29.binds (ps := []) fun _ _ _ _ _ _ us hl => match us, hl with | [], _ => rfl
  have F30 := fun_mk (st := topS 36) l30 c30 k30
  have b30 := F30.binds (ps := ["_law_urn"]) fun _ _ _ _ _ _ us hl => match us, hl with | [_], _ => rfl
  have F31 := fun_mk (st := topS 37) l31 c31 k31
  refine ⟨PySem.W.fnOf "law" "law" (defArgs (topS 37)) (defBody (topS 37)) (defScope (topS 37)) .none kV31 dc31 pm31 an31 cd31 ct31, fun s v => .of_eq rfl, fun base _ _ => ?_⟩
  have D_set_of := dn_mk (P := l.prog) (w := w) (base := base) F0 (PySem.W.mg_of X G a0) b0 (ok_set_of F0 B)
  have T4 := dn_tupled (P := l.prog) (w := w) (base := base) F1 (PySem.W.mg_of X G a1) b1 B 4
  have D_payers := dn_mk (P := l.prog) (w := w) (base := base) F2 (PySem.W.mg_of X G a2) b2 (ok_payers F2 B)
  have D_lists_table := dn_mk (P := l.prog) (w := w) (base := base) F3 (PySem.W.mg_of X G a3) b3 (ok_lists_table F3 B T4)
  have D_check_payer := dn_mk (P := l.prog) (w := w) (base := base) F4 (PySem.W.mg_of X G a4) b4 (ok_check_payer F4 D_payers)
  have D_list_of := dn_mk (P := l.prog) (w := w) (base := base) F5 (PySem.W.mg_of X G a5) b5 (ok_list_of F5 D_check_payer D_lists_table)
  have D_lay_on := dn_mk (P := l.prog) (w := w) (base := base) F6 (PySem.W.mg_of X G a6) b6 (ok_lay_on F6 B)
  have D_sum_of := dn_mk (P := l.prog) (w := w) (base := base) F7 (PySem.W.mg_of X G a7) b7 (ok_sum_of F7 B)
  have D_first_open := dn_mk (P := l.prog) (w := w) (base := base) F8 (PySem.W.mg_of X G a8) b8 (ok_first_open F8 B T4 D_list_of)
  have D_paid := dn_mk (P := l.prog) (w := w) (base := base) F9 (PySem.W.mg_of X G a9) b9 (ok_paid F9 B T4 D_list_of D_lay_on)
  have D_walked := dn_mk (P := l.prog) (w := w) (base := base) F10 (PySem.W.mg_of X G a10) b10 (ok_walked F10 B T4 D_lists_table D_lay_on)
  have D_along := dn_mk (P := l.prog) (w := w) (base := base) F11 (PySem.W.mg_of X G a11) b11 (ok_along F11 D_walked)
  have D_end_of := dn_mk (P := l.prog) (w := w) (base := base) F12 (PySem.W.mg_of X G a12) b12 (ok_end_of F12 T4 D_along)
  have D_ends := dn_mk (P := l.prog) (w := w) (base := base) F13 (PySem.W.mg_of X G a13) b13 (ok_ends F13 B T4 D_lists_table D_lay_on D_set_of)
  have D_given_back := dn_mk (P := l.prog) (w := w) (base := base) F14 (PySem.W.mg_of X G a14) b14 (ok_given_back F14 B D_walked D_sum_of)
  have D_sum_back := dn_mk (P := l.prog) (w := w) (base := base) F15 (PySem.W.mg_of X G a15) b15 (ok_sum_back F15 B D_given_back)
  have D__law_box := dn_mk (P := l.prog) (w := w) (base := base) F16 (PySem.W.mg_of X G a16) b16 (ok_box F16 B)
  have D__law_take := dn_mk (P := l.prog) (w := w) (base := base) F17 (PySem.W.mg_of X G a17) b17 (ok_take F17 B)
  have D__law_cells := dn_mk (P := l.prog) (w := w) (base := base) F18 (PySem.W.mg_of X G a18) b18 (ok_cells F18 B)
  have D__law_of := dn_mk (P := l.prog) (w := w) (base := base) F19 (PySem.W.mg_of X G a19) b19 (ok_of F19 B D__law_take)
  have S5 := dn_same (P := l.prog) (w := w) (base := base) F20 (PySem.W.mg_of X G a20) b20 B 5
  have D__law_mixed := dn_mk (P := l.prog) (w := w) (base := base) F21 (PySem.W.mg_of X G a21) b21 (ok_mixed F21 B D__law_take)
  have D__law_tags := dn_mk (P := l.prog) (w := w) (base := base) F22 (PySem.W.mg_of X G a22) b22 (ok_tags F22 B D__law_take D__law_of)
  have D__law_host := dn_mk (P := l.prog) (w := w) (base := base) F23 (PySem.W.mg_of X G a23) b23 (ok_host F23 B)
  have D__law_folk := dn_mk (P := l.prog) (w := w) (base := base) F24 (PySem.W.mg_of X G a24) b24 (ok_folk F24 B)
  have D__law_one_right := dn_mk (P := l.prog) (w := w) (base := base) F25 (PySem.W.mg_of X G a25) b25 (ok_one F25 B D__law_folk D_ends D_sum_back D_paid)
  have D__law_circle_right := dn_mk (P := l.prog) (w := w) (base := base) F26 (PySem.W.mg_of X G a26) b26 (ok_circle F26 B D__law_folk D_ends D_sum_back)
  have D__law_rest_right := dn_mk (P := l.prog) (w := w) (base := base) F27 (PySem.W.mg_of X G a27) b27 (ok_rest F27 B D__law_folk D_ends D_sum_back D_first_open D_given_back)
  have D__law_all_right := dn_mk (P := l.prog) (w := w) (base := base) F28 (PySem.W.mg_of X G a28) b28 (ok_all F28 D__law_one_right D__law_circle_right D__law_rest_right)
  have D__law_by_hand_right := dn_mk (P := l.prog) (w := w) (base := base) F29 (PySem.W.mg_of X G a29) b29 (ok_hand F29 B D__law_host D_ends D_end_of S5 D__law_all_right)
  have D__law_right := dn_mk (P := l.prog) (w := w) (base := base) F30 (PySem.W.mg_of X G a30) b30 (ok_right F30 B D__law_take D__law_of D__law_mixed D__law_tags D__law_all_right)
  exact ok_law F31 B D__law_cells D__law_box D__law_right D__law_by_hand_right
theorem walk {l : PySem.W.OpenLaw} {q : Program} {loose : List Str} {XP : (Str → Option Value) → Heap → Prop} {YP : World → Heap → Prop} {d : DefRec} {K : Params → PySem.W.Frag} (hn : l.most = some 63) (hdf : d.params.defaults = [])
    (hY : ∀ (w : World) (h : Heap), YP w h → (K w.params).In h)
    (F : ∀ (w : World) (mg : Str → Option Value) (fa : Addr) (h : Heap), (K w.params).In h → h.Ns mainGlobals mg → mg d.name = some (.ref fa) →
      ∃ fd : FuncData, (∀ (s : Shared) (u : Value), BindsTo s fd ⟨[u], []⟩ [("_law_script", u)]) ∧ ∀ base : Heap, (K w.params).In base → base.Ns mainGlobals mg → FnOk l.prog w (K w.params) mg base CX0 13 fa fd ["_law_script"] (spD (K w.params) (RelD d_law))) :
    PySem.W.WalkO q loose XP YP l.row.toRowW d [] (fun f vs => PySem.call f vs) :=
  L2.walk_of (n := 63) (k := 13) (x := "_law_script") (CX := fun _ => CX0) (sp := fun w => spD (K w.params) (RelD d_law)) hn (by decide) hdf ⟨rfl, by decide, by decide⟩ hY F (fun _ _ _ _ hl _ hS => entry hl hS) fun _ _ _ _ _ z => z
end Ol
open PySem PySem.W PyProof.Rows in
set_option maxRecDepth 100000 in
set_option maxHeartbeats 0 in
theorem PySem.Challenge.cw_ownlists_k15_whole_books_known_outright_holds : PySem.Challenge.rw_ownlists_k15_whole_books_known_outright.Holds := by
  w_on; o_law; k_head; (case hw => w_witness2)
  k_fill
  refine Ol.walk (l := PySem.Challenge.rw_ownlists_k15_whole_books_known_outright) rfl rfl (fun w h Y => PySem.W.kIn_of Y) ?F
  case F =>
    intro w mg fa h KX G hmg
    refine' Ol.all_mk KX G hmg ?a0 ?l0 ?c0 ?k0 ?a1 ?l1 ?c1 ?k1 ?a2 ?l2 ?c2 ?k2 ?a3 ?l3 ?c3 ?k3 ?a4 ?l4 ?c4 ?k4 ?a5 ?l5 ?c5 ?k5 ?a6 ?l6 ?c6 ?k6 ?a7 ?l7 ?c7 ?k7 ?a8 ?l8 ?c8 ?k8 ?a9 ?l9 ?c9 ?k9 ?a10 ?l10 ?c10 ?k10 ?a11 ?l11 ?c11 ?k11 ?a12 ?l12 ?c12 ?k12 ?a13 ?l13 ?c13 ?k13 ?a14 ?l14 ?c14 ?k14 ?a15 ?l15 ?c15 ?k15 ?a16 ?l16 ?c16 ?k16 ?a17 ?l17 ?c17 ?k17 ?a18 ?l18 ?c18 ?k18 ?a19 ?l19 ?c19 ?k19 ?a20 ?l20 ?c20 ?k20 ?a21 ?l21 ?c21 ?k21 ?a22 ?l22 ?c22 ?k22 ?a23 ?l23 ?c23 ?k23 ?a24 ?l24 ?c24 ?k24 ?a25 ?l25 ?c25 ?k25 ?a26 ?l26 ?c26 ?k26 ?a27 ?l27 ?c27 ?k27 ?a28 ?l28 ?c28 ?k28 ?a29 ?l29 ?c29 ?k29 ?a30 ?l30 ?c30 ?k30 ?a31 ?l31 ?c31 ?k31 ?z_len ?z_tuple ?z_sorted ?z_set ?z_isinstance ?z_list ?z_dict ?z_min ?z_max ?z_sum ?z_zip ?z_range ?z_enumerate ?z_abs ?z_int ?z_all ?z_bool ?z_str
    (case a0 => k_is)
    (case l0 => k_is)
    (case c0 => k_is)
    (case k0 => k_is)
    (case a1 => k_is)
    (case l1 => k_is)
    (case c1 => k_is)
    (case k1 => k_is)
    (case a2 => k_is)
    (case l2 => k_is)
    (case c2 => k_is)
    (case k2 => k_is)
    (case a3 => k_is)
    (case l3 => k_is)
    (case c3 => k_is)
    (case k3 => k_is)
    (case a4 => k_is)
    (case l4 => k_is)
    (case c4 => k_is)
    (case k4 => k_is)
    (case a5 => k_is)
    (case l5 => k_is)
    (case c5 => k_is)
    (case k5 => k_is)
    (case a6 => k_is)
    (case l6 => k_is)
    (case c6 => k_is)
    (case k6 => k_is)
    (case a7 => k_is)
    (case l7 => k_is)
    (case c7 => k_is)
    (case k7 => k_is)
    (case a8 => k_is)
    (case l8 => k_is)
    (case c8 => k_is)
    (case k8 => k_is)
    (case a9 => k_is)
    (case l9 => k_is)
    (case c9 => k_is)
    (case k9 => k_is)
    (case a10 => k_is)
    (case l10 => k_is)
    (case c10 => k_is)
    (case k10 => k_is)
    (case a11 => k_is)
    (case l11 => k_is)
    (case c11 => k_is)
    (case k11 => k_is)
    (case a12 => k_is)
    (case l12 => k_is)
    (case c12 => k_is)
    (case k12 => k_is)
    (case a13 => k_is)
    (case l13 => k_is)
    (case c13 => k_is)
    (case k13 => k_is)
    (case a14 => k_is)
    (case l14 => k_is)
    (case c14 => k_is)
    (case k14 => k_is)
    (case a15 => k_is)
    (case l15 => k_is)
    (case c15 => k_is)
    (case k15 => k_is)
    (case a16 => k_is)
    (case l16 => k_is)
    (case c16 => k_is)
    (case k16 => k_is)
    (case a17 => k_is)
    (case l17 => k_is)
    (case c17 => k_is)
    (case k17 => k_is)
    (case a18 => k_is)
    (case l18 => k_is)
    (case c18 => k_is)
    (case k18 => k_is)
    (case a19 => k_is)
    (case l19 => k_is)
    (case c19 => k_is)
    (case k19 => k_is)
    (case a20 => k_is)
    (case l20 => k_is)
    (case c20 => k_is)
    (case k20 => k_is)
    (case a21 => k_is)
    (case l21 => k_is)
    (case c21 => k_is)
    (case k21 => k_is)
    (case a22 => k_is)
    (case l22 => k_is)
    (case c22 => k_is)
    (case k22 => k_is)
    (case a23 => k_is)
    (case l23 => k_is)
    (case c23 => k_is)
    (case k23 => k_is)
    (case a24 => k_is)
    (case l24 => k_is)
    (case c24 => k_is)
    (case k24 => k_is)
    (case a25 => k_is)
    (case l25 => k_is)
    (case c25 => k_is)
    (case k25 => k_is)
    (case a26 => k_is)
    (case l26 => k_is)
    (case c26 => k_is)
    (case k26 => k_is)
    (case a27 => k_is)
    (case l27 => k_is)
    (case c27 => k_is)
    (case k27 => k_is)
    (case a28 => k_is)
    (case l28 => k_is)
    (case c28 => k_is)
    (case k28 => k_is)
    (case a29 => k_is)
    (case l29 => k_is)
    (case c29 => k_is)
    (case k29 => k_is)
    (case a30 => k_is)
    (case l30 => k_is)
    (case c30 => k_is)
    (case k30 => k_is)
    (case a31 => k_is)
    (case l31 => k_is)
    (case c31 => k_is)
    (case k31 => k_is)
    (case z_len => k_is)
    (case z_tuple => k_is)
    (case z_sorted => k_is)
    (case z_set => k_is)
    (case z_isinstance => k_is)
    (case z_list => k_is)
    (case z_dict => k_is)
    (case z_min => k_is)
    (case z_max => k_is)
    (case z_sum => k_is)
    (case z_zip => k_is)
    (case z_range => k_is)
    (case z_enumerate => k_is)
    (case z_abs => k_is)
    (case z_int => k_is)
    (case z_all => k_is)
    (case z_bool => k_is)
    (case z_str => k_is)
#print axioms PySem.Challenge.cw_ownlists_k15_whole_books_known_outright_holds
