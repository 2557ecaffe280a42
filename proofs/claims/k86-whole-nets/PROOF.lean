import PyProof.Rows.All
import Wide.All
import OpenK.AllK
import Wide.FinOn
import HandS.ForMost
import HandS.Wide
import HandS.Style
import HandS.TupAny
import HandS.IsInst
import HandS.Rev
import HandS.Zip
import HandS.Walk
import HandS.Conv
import KE.GoesMore
import KE.GoesEnum
import KE.KMinKey
import HandS.SortKw
import HandS.Exc
import PyProof.ReprRoads
import PyProof.ReprLen
import HandS.EndBits
import PySem.Challenge.RW_shufflerests_k86_whole_nets_are_apart
set_option Elab.async false
set_option linter.all false
/-! What each def computes, in plain Lean: the mirrors. -/
namespace Mz
def trm {α : Type} (z : α → Bool) (l : List α) : List α := (l.reverse.dropWhile z).reverse
def isZ (a : Int) : Bool := a == 0
def pol (m : Int) (xs : List Int) : List Int := trm isZ (xs.map (· % m))
def val (m : Int) (f : List Int) (x : Int) : Int := f.reverse.foldl (fun acc c => (acc * x + c) % m) 0
def co (f : List Int) (k : Nat) : Int := f.getD k 0
def plusM (m : Int) (f g : List Int) : List Int := pol m ((List.range (max f.length g.length)).map fun k => co f k + co g k)
def lessM (m : Int) (f g : List Int) : List Int := pol m ((List.range (max f.length g.length)).map fun k => co f k - co g k)
def mulL (m : Int) (f g : List Int) : List Int :=
  (List.range f.length).foldl (fun acc i => (List.range g.length).foldl (fun acc j => acc.set (i + j) ((co acc (i + j) + co f i * co g j) % m)) acc) (List.replicate (f.length + g.length) 0)
def timesM (m : Int) (f g : List Int) : List Int := pol m (mulL m f g)
def rowM (P : List (List Int)) (i : Nat) : List Int := P.getD i []
def pol2 (m : Int) (rows : List (List Int)) : List (List Int) := trm List.isEmpty (rows.map (pol m))
def plus2M (m : Int) (P Q : List (List Int)) : List (List Int) := pol2 m ((List.range (max P.length Q.length)).map fun i => plusM m (rowM P i) (rowM Q i))
def less2M (m : Int) (P Q : List (List Int)) : List (List Int) := pol2 m ((List.range (max P.length Q.length)).map fun i => lessM m (rowM P i) (rowM Q i))
/-- with its number -/
def en {α : Type} : Nat → List α → List (Nat × α)
  | _, [] => []
  | k, d :: ds => (k, d) :: en (k + 1) ds
def mulR (m : Int) (P Q : List (List Int)) : List (List Int) :=
  (en 0 P).foldl (fun acc p => (en 0 Q).foldl (fun acc q => acc.set (p.1 + q.1) (plusM m (rowM acc (p.1 + q.1)) (timesM m p.2 q.2))) acc) (List.replicate (P.length + Q.length) [])
def times2M (m : Int) (P Q : List (List Int)) : List (List Int) := pol2 m (mulR m P Q)
def hornI (m : Int) (row : List Int) (V : List (List Int)) : List (List Int) := row.reverse.foldl (fun inner one => plus2M m (times2M m inner V) (pol2 m [[one]])) []
def upon2M (m : Int) (P U V : List (List Int)) : List (List Int) := P.reverse.foldl (fun found row => plus2M m (times2M m found U) (hornI m row V)) []
def inxM (f : List Int) : List (List Int) := f.map fun c => if c = 0 then [] else [c]
def fac : Nat → Nat
  | 0 => 1
  | n + 1 => (n + 1) * fac n
def top (m : Int) (i j : Nat) : Int := m / (Int.gcd m ((fac i * fac j : Nat) : Int) : Int)
def nb (m : Int) : Nat → List Int
  | 0 => pol m [1]
  | k + 1 => timesM m (nb m k) (pol m [-(k : Int), 1])
def mx : List Nat → Nat
  | [] => 0
  | n :: r => max n (mx r)
def wide (P : List (List Int)) : Nat := mx (P.map List.length)
def innerM (m : Int) (row : List Int) : List Int := (en 0 row).foldl (fun inner q => if q.2 % m = 0 then inner else plusM m inner (timesM m (nb m q.1) (pol m [q.2]))) []
def spread (m : Int) (inner : List Int) (side : List Int) (found : List (List Int)) : List (List Int) := (en 0 side).foldl (fun acc q => acc.set q.1 (plusM m (rowM acc q.1) (timesM m inner (pol m [q.2])))) found
def builtM (m : Int) (table : List (List Int)) : List (List Int) :=
  pol2 m ((en 0 table).foldl (fun acc q => if innerM m q.2 = [] then acc else spread m (innerM m q.2) (nb m q.1) acc) (List.replicate table.length []))
/-- the rests and the quotient by x less k, from the lowest -/
def syn (m k : Int) : List Int → List Int
  | [] => []
  | a :: l => (((syn m k l).headD 0) * k + a) % m :: syn m k l
def partN (m : Int) : Nat → Nat → List Int → List Int
  | 0, _, _ => []
  | n + 1, k, l => (syn m (k : Int) l).headD 0 :: partN m n (k + 1) (syn m (k : Int) l).tail
def partM (m : Int) (l : List Int) : List Int := partN m l.length 0 l
def pad (n : Nat) (l : List Int) : List Int := l ++ List.replicate (n - l.length) 0
def tabT (f : List Int → List Int) (P : List (List Int)) : List (List Int) :=
  let rows := P.map fun row => f (pad (wide P) row)
  let cols := (List.range (wide P)).map fun j => f (rows.map fun row => co row j)
  (List.range P.length).map fun i => cols.map fun col => co col i
def parts2M (m : Int) (P : List (List Int)) : List (List Int) := tabT (partM m) P
def topsR (m : Int) (i : Nat) (row : List Int) : List Int := (en 0 row).map fun r => r.2 * top m i r.1
def topsM (m : Int) (a : List (List Int)) : List (List Int) := (en 0 a).map fun q => topsR m q.1 q.2
def divR (m : Int) (i : Nat) (row : List Int) : Option (List Int) := if ((en 0 row).any fun r => !decide (r.2 % top m i r.1 = 0)) = true then none else some ((en 0 row).map fun r => r.2 / top m i r.1)
def divT (m : Int) : Nat → List (List Int) → Option (List (List Int))
  | _, [] => some []
  | i, row :: r => match divR m i row with
    | none => none
    | some a => (divT m (i + 1) r).map (a :: ·)
def nullM (m : Int) (P : List (List Int)) : Option (List (List Int)) := divT m 0 (parts2M m P)
def modT (m : Int) (t : List (List Int)) : List (List Int) := (List.range t.length).map fun i => (List.range (rowM t i).length).map fun j => co (rowM t i) j % top m i j
def least2M (m : Int) (P : List (List Int)) : List (List Int) := builtM m (modT m (parts2M m P))
abbrev Net := List (List Int × Int)
def netM (m : Int) (net : Net) (x y : Int) : Int × Int := net.foldl (fun p s => (p.2, (p.1 + val m s.1 (p.2 + s.2)) % m)) (x, y)
def unnetM (m : Int) (net : Net) (x y : Int) : Int × Int := net.reverse.foldl (fun p s => ((p.2 - val m s.1 (p.1 + s.2)) % m, p.1)) (x, y)
def oX : List (List Int) := [[], [1]]
def oY : List (List Int) := [[0, 1]]
def wkM (m : Int) (s : List Int × Int) (R : List (List Int)) : List (List Int) := upon2M m (inxM s.1) (plus2M m R (pol2 m [[s.2]])) []
def nextM (m : Int) (P R : List (List Int)) (s : List Int × Int) : List (List Int) := least2M m (plus2M m P (wkM m s R))
/-- the papers' rows -/
def netP (m : Int) : List (List Int) → List (List Int) → Net → List (List (List Int) × Option (List (List Int)))
  | _, _, [] => []
  | P, R, s :: r => (nextM m P R s, nullM m (less2M m (plus2M m P (wkM m s R)) (nextM m P R s))) :: netP m R (nextM m P R s) r
def netW (m : Int) : List (List Int) → List (List Int) → Net → List (List Int) × List (List Int)
  | P, R, [] => (P, R)
  | P, R, s :: r => netW m R (nextM m P R s) r
def netUV (m : Int) (net : Net) : List (List Int) × List (List Int) := net.reverse.foldl (fun p s => (least2M m (less2M m p.2 (wkM m s p.1)), p.1)) (oX, oY)
/-! the law's own -/
def atRow (m : Int) (row : List Int) (y : Int) (p : Int × Int) : Int × Int := row.foldl (fun q one => (q.1 + one * q.2, q.2 * y % m)) p
def atM (m : Int) (P : List (List Int)) (x y : Int) : Int := (P.foldl (fun p row => ((atRow m row y p).1, p.2 * x % m)) (0, 1)).1 % m
def addM (m : Int) (P Q : List (List Int)) (b : Int) : List (List Int) :=
  pol2 m ((List.range (max P.length Q.length)).map fun i => (List.range (max (rowM P i).length (rowM Q i).length)).map fun j => co (rowM P i) j + b * co (rowM Q i) j)
def lmulR (P Q : List (List Int)) : List (List Int) :=
  (en 0 P).foldl (fun acc p => (en 0 Q).foldl (fun acc q => acc.set (p.1 + q.1) ((en 0 p.2).foldl (fun h a => (en 0 q.2).foldl (fun h b => h.set (a.1 + b.1) (co h (a.1 + b.1) + a.2 * b.2)) h) (rowM acc (p.1 + q.1)))) acc)
    (List.replicate (P.length + Q.length) (List.replicate (wide (P ++ Q) * 2) 0))
def lmulM (m : Int) (P Q : List (List Int)) : List (List Int) := pol2 m (lmulR P Q)
def putI (m : Int) (V : List (List Int)) : Nat → List Int → List (List Int) → List (List Int) → List (List Int)
  | _, [], inner, _ => inner
  | j, one :: r, inner, other => putI m V (j + 1) r (addM m inner (if 0 < j then lmulM m other V else other) one) (if 0 < j then lmulM m other V else other)
def putO (m : Int) (U V : List (List Int)) : Nat → List (List Int) → List (List Int) → List (List Int) → List (List Int)
  | _, [], found, _ => found
  | i, row :: r, found, pw => putO m U V (i + 1) r (addM m found (lmulM m (putI m V 0 row [] [[1]]) (if 0 < i then lmulM m pw U else pw)) 1) (if 0 < i then lmulM m pw U else pw)
def putM (m : Int) (P U V : List (List Int)) : List (List Int) := putO m U V 0 P [] [[1]]
def downTo (a b : Nat) : List Nat := ((List.range a).filter fun i => decide (b ≤ i)).reverse
def splitK (m : Int) (k : Nat) (l : List Int) : List Int := (downTo (l.length - 1) k).foldl (fun l i => l.set i ((co l i + (k : Int) * co l (i + 1)) % m)) l
def splitM (m : Int) (l : List Int) : List Int := (List.range l.length).foldl (fun a k => splitK m k a) l
def unsplitK (m : Int) (k : Nat) (l : List Int) : List Int := ((List.range (l.length - 1)).filter fun i => decide (k ≤ i)).foldl (fun l i => l.set i ((co l i - (k : Int) * co l (i + 1)) % m)) l
def unsplitM (m : Int) (l : List Int) : List Int := (List.range l.length).reverse.foldl (fun a k => unsplitK m k a) l
def lpartsM (m : Int) (P : List (List Int)) : List (List Int) := tabT (splitM m) P
def sumM (m : Int) (table : List (List Int)) : List (List Int) := pol2 m (tabT (unsplitM m) table)
def lleastM (m : Int) (P : List (List Int)) : List (List Int) := sumM m (modT m (lpartsM m P))
def wideGo (m : Int) (sh : List (List Int)) : List Int → List (List Int) → List (List Int) → List (List Int)
  | [], found, _ => found
  | one :: r, found, pw => wideGo m sh r (addM m found pw one) (lmulM m pw sh)
def lwideM (m : Int) (P R : List (List Int)) (s : List Int × Int) : List (List Int) := wideGo m (addM m R [[1]] s.2) s.1 P [[1]]
def bothM (m : Int) : List (List Int) → List (List Int) → Net → List (List Int) × List (List Int)
  | P, R, [] => (P, R)
  | P, R, s :: r => bothM m R (lleastM m (lwideM m P R s)) r
end Mz

set_option Elab.async false
set_option linter.all false
set_option maxRecDepth 100000
set_option maxHeartbeats 2000000
/-! Data, their place in a heap, a store of what may change: readings of terms over data alone. -/
namespace Nf
open PySem PySem.Spec PyProof.Rows L2

inductive Dt where
  | n | b (c : Bool) | i (k : Int) | s (x : Str) | a (p : Addr) | t (ds : List Dt) | l (ds : List Dt)

mutual
def Rep (K : PySem.W.Frag) (H : Hp) : Dt → V → Prop
  | .n, v => v = .non
  | .b c, v => v = .bl c
  | .i k, v => v = .int k
  | .s x, v => v = .str x
  | .a p, v => v = .ref p
  | .t ds, v => ∃ a vs, v = .ref a ∧ SqT K H a vs ∧ Reps K H ds vs
  | .l ds, v => ∃ a vs, v = .ref a ∧ SqL K H a vs ∧ Reps K H ds vs
def Reps (K : PySem.W.Frag) (H : Hp) : List Dt → List V → Prop
  | [], vs => vs = []
  | d :: ds, vs => ∃ v r, vs = v :: r ∧ Rep K H d v ∧ Reps K H ds r
end

def Ex (H H' : Hp) : Prop := ∀ a o, H a = some o → H' a = some o
theorem Ex.refl (H : Hp) : Ex H H := fun _ _ h => h
theorem Ex.trans {H H1 H2 : Hp} (a : Ex H H1) (b : Ex H1 H2) : Ex H H2 := fun x o h => b x o (a x o h)
theorem Ex.new {H : Hp} {p : Addr} {o : HO} (h : H p = none) : Ex H (upd H p o) := fun a u e => by
  rw [upd_ne (ne_of_none e h)]
  exact e
theorem ex_rd {H H' : Hp} {a : Addr} {u : HO} (e : Ex H H') (h : Rd H a u) : Rd H' a u := by
  rcases h with h | ⟨o, h⟩
  · exact Or.inl (e a _ h)
  · exact Or.inr ⟨o, e a _ h⟩
theorem ex_l {K : PySem.W.Frag} {H H' : Hp} {a : Addr} {xs : List V} (e : Ex H H') (h : SqL K H a xs) : SqL K H' a xs := by
  rcases h with h | h
  · exact Or.inl (ex_rd e h)
  · exact Or.inr h
theorem ex_t {K : PySem.W.Frag} {H H' : Hp} {a : Addr} {xs : List V} (e : Ex H H') (h : SqT K H a xs) : SqT K H' a xs := by
  rcases h with h | h
  · exact Or.inl (ex_rd e h)
  · exact Or.inr h
mutual
theorem Rep.mono {K : PySem.W.Frag} {H H' : Hp} (e : Ex H H') : ∀ {d : Dt} {v : V}, Rep K H d v → Rep K H' d v
  | .n, _, h => by unfold Rep at h ⊢; exact h
  | .b _, _, h => by unfold Rep at h ⊢; exact h
  | .i _, _, h => by unfold Rep at h ⊢; exact h
  | .s _, _, h => by unfold Rep at h ⊢; exact h
  | .a _, _, h => by unfold Rep at h ⊢; exact h
  | .t ds, _, h => by
    unfold Rep at h ⊢
    obtain ⟨a, vs, h1, h2, h3⟩ := h
    exact ⟨a, vs, h1, ex_t e h2, Reps.mono e h3⟩
  | .l ds, _, h => by
    unfold Rep at h ⊢
    obtain ⟨a, vs, h1, h2, h3⟩ := h
    exact ⟨a, vs, h1, ex_l e h2, Reps.mono e h3⟩
theorem Reps.mono {K : PySem.W.Frag} {H H' : Hp} (e : Ex H H') : ∀ {ds : List Dt} {vs : List V}, Reps K H ds vs → Reps K H' ds vs
  | [], _, h => by unfold Reps at h ⊢; exact h
  | d :: ds, _, h => by
    unfold Reps at h ⊢
    obtain ⟨v, r, h1, h2, h3⟩ := h
    exact ⟨v, r, h1, Rep.mono e h2, Reps.mono e h3⟩
end
section
variable {K : PySem.W.Frag} {H : Hp} {d : Dt} {ds es : List Dt} {v : V} {vs ws : List V}
theorem Reps.nil : Reps K H [] [] := by unfold Reps; rfl
theorem Reps.cons (h : Rep K H d v) (r : Reps K H ds vs) : Reps K H (d :: ds) (v :: vs) := by unfold Reps; exact ⟨v, vs, rfl, h, r⟩
theorem Reps.nil_inv (h : Reps K H [] vs) : vs = [] := by unfold Reps at h; exact h
theorem Reps.cons_inv (h : Reps K H (d :: ds) vs) : ∃ v r, vs = v :: r ∧ Rep K H d v ∧ Reps K H ds r := by unfold Reps at h; exact h
theorem Rep.int_inv {k : Int} (h : Rep K H (.i k) v) : v = .int k := by unfold Rep at h; exact h
theorem Rep.bl_inv {k : Bool} (h : Rep K H (.b k) v) : v = .bl k := by unfold Rep at h; exact h
theorem Rep.str_inv {k : Str} (h : Rep K H (.s k) v) : v = .str k := by unfold Rep at h; exact h
theorem Rep.non_inv (h : Rep K H .n v) : v = .non := by unfold Rep at h; exact h
theorem Rep.a_inv {p : Addr} (h : Rep K H (.a p) v) : v = .ref p := by unfold Rep at h; exact h
theorem Rep.t_inv (h : Rep K H (.t ds) v) : ∃ a vs, v = .ref a ∧ SqT K H a vs ∧ Reps K H ds vs := by unfold Rep at h; exact h
theorem Rep.l_inv (h : Rep K H (.l ds) v) : ∃ a vs, v = .ref a ∧ SqL K H a vs ∧ Reps K H ds vs := by unfold Rep at h; exact h
theorem rep_i {k : Int} : Rep K H (.i k) (.int k) := by unfold Rep; rfl
theorem rep_b {k : Bool} : Rep K H (.b k) (.bl k) := by unfold Rep; rfl
theorem rep_s {k : Str} : Rep K H (.s k) (.str k) := by unfold Rep; rfl
theorem rep_n : Rep K H .n .non := by unfold Rep; rfl
theorem rep_a {p : Addr} : Rep K H (.a p) (.ref p) := by unfold Rep; rfl
theorem rep_t {a : Addr} (h : SqT K H a vs) (r : Reps K H ds vs) : Rep K H (.t ds) (.ref a) := by unfold Rep; exact ⟨a, vs, rfl, h, r⟩
theorem rep_l {a : Addr} (h : SqL K H a vs) (r : Reps K H ds vs) : Rep K H (.l ds) (.ref a) := by unfold Rep; exact ⟨a, vs, rfl, h, r⟩
end
section
variable {K : PySem.W.Frag} {H : Hp}
theorem Reps.len : ∀ {ds : List Dt} {vs : List V}, Reps K H ds vs → ds.length = vs.length
  | [], _, h => by rw [h.nil_inv]; rfl
  | d :: ds, _, h => by
    obtain ⟨v, r, rfl, _, h3⟩ := h.cons_inv
    simp [Reps.len h3]
theorem Reps.get : ∀ {ds : List Dt} {vs : List V} {i : Nat} {d : Dt}, Reps K H ds vs → ds[i]? = some d → ∃ v, vs[i]? = some v ∧ Rep K H d v
  | [], _, _, _, _, e => by simp at e
  | d :: ds, _, 0, d', h, e => by
    obtain ⟨v, r, rfl, h2, _⟩ := h.cons_inv
    simp at e; subst e
    exact ⟨v, rfl, h2⟩
  | d :: ds, _, i + 1, d', h, e => by
    obtain ⟨v, r, rfl, _, h3⟩ := h.cons_inv
    simp at e
    obtain ⟨w, h4, h5⟩ := Reps.get h3 e
    exact ⟨w, by simpa using h4, h5⟩
theorem Reps.get' : ∀ {ds : List Dt} {vs : List V} {i : Nat} {v : V}, Reps K H ds vs → vs[i]? = some v → ∃ d, ds[i]? = some d ∧ Rep K H d v
  | [], _, _, _, h, e => by rw [h.nil_inv] at e; simp at e
  | d :: ds, _, 0, d', h, e => by
    obtain ⟨v, r, rfl, h2, _⟩ := h.cons_inv
    simp at e; subst e
    exact ⟨d, rfl, h2⟩
  | d :: ds, _, i + 1, d', h, e => by
    obtain ⟨v, r, rfl, _, h3⟩ := h.cons_inv
    simp at e
    obtain ⟨w, h4, h5⟩ := Reps.get' h3 e
    exact ⟨w, by simpa using h4, h5⟩
theorem Reps.append : ∀ {ds es : List Dt} {vs ws : List V}, Reps K H ds vs → Reps K H es ws → Reps K H (ds ++ es) (vs ++ ws)
  | [], _, _, _, h, h' => by rw [h.nil_inv]; exact h'
  | d :: ds, _, _, _, h, h' => by
    obtain ⟨v, r, rfl, h2, h3⟩ := h.cons_inv
    exact Reps.cons h2 (Reps.append h3 h')
theorem Reps.set {x : Dt} {u : V} (hu : Rep K H x u) : ∀ {ds : List Dt} {vs : List V} (i : Nat), Reps K H ds vs → Reps K H (ds.set i x) (vs.set i u)
  | [], _, _, h => by rw [h.nil_inv]; exact Reps.nil
  | d :: ds, _, 0, h => by
    obtain ⟨v, r, rfl, h2, h3⟩ := h.cons_inv
    exact Reps.cons hu h3
  | d :: ds, _, i + 1, h => by
    obtain ⟨v, r, rfl, h2, h3⟩ := h.cons_inv
    exact Reps.cons h2 (Reps.set hu i h3)
theorem Reps.take : ∀ {ds : List Dt} {vs : List V} (n : Nat), Reps K H ds vs → Reps K H (ds.take n) (vs.take n)
  | _, _, 0, _ => Reps.nil
  | [], _, _ + 1, h => by rw [h.nil_inv]; exact Reps.nil
  | d :: ds, _, n + 1, h => by
    obtain ⟨v, r, rfl, h2, h3⟩ := h.cons_inv
    exact Reps.cons h2 (Reps.take n h3)
theorem Reps.drop : ∀ {ds : List Dt} {vs : List V} (n : Nat), Reps K H ds vs → Reps K H (ds.drop n) (vs.drop n)
  | _, _, 0, h => h
  | [], _, _ + 1, h => by rw [h.nil_inv]; exact Reps.nil
  | d :: ds, _, n + 1, h => by
    obtain ⟨v, r, rfl, h2, h3⟩ := h.cons_inv
    exact Reps.drop n h3
theorem Reps.dropLast {ds : List Dt} {vs : List V} (h : Reps K H ds vs) : Reps K H ds.dropLast vs.dropLast := by
  rw [List.dropLast_eq_take, List.dropLast_eq_take, h.len]
  exact h.take _
theorem Reps.reverse : ∀ {ds : List Dt} {vs : List V}, Reps K H ds vs → Reps K H ds.reverse vs.reverse
  | [], _, h => by rw [h.nil_inv]; exact Reps.nil
  | d :: ds, _, h => by
    obtain ⟨v, r, rfl, h2, h3⟩ := h.cons_inv
    rw [List.reverse_cons, List.reverse_cons]
    exact Reps.append (Reps.reverse h3) (Reps.cons h2 Reps.nil)
theorem Reps.rep {ds : List Dt} {vs : List V} (h : Reps K H ds vs) : ∀ k : Nat, Reps K H (List.replicate k ds).flatten (List.replicate k vs).flatten
  | 0 => Reps.nil
  | k + 1 => by
    rw [List.replicate_succ, List.replicate_succ, List.flatten_cons, List.flatten_cons]
    exact Reps.append h (Reps.rep h k)
theorem Reps.two {d e : Dt} {vs : List V} (h : Reps K H [d, e] vs) : ∃ v w, vs = [v, w] ∧ Rep K H d v ∧ Rep K H e w := by
  obtain ⟨v, r, rfl, h1, h2⟩ := h.cons_inv
  obtain ⟨w, r', rfl, h3, h4⟩ := h2.cons_inv
  rw [h4.nil_inv]
  exact ⟨v, w, rfl, h1, h3⟩
theorem Reps.one {d : Dt} {vs : List V} (h : Reps K H [d] vs) : ∃ v, vs = [v] ∧ Rep K H d v := by
  obtain ⟨v, r, rfl, h1, h2⟩ := h.cons_inv
  rw [h2.nil_inv]
  exact ⟨v, rfl, h1⟩
theorem Reps.ints : ∀ {ns : List Int} {vs : List V}, Reps K H (ns.map Dt.i) vs → vs = ns.map V.int
  | [], _, h => h.nil_inv
  | n :: ns, _, h => by
    obtain ⟨v, r, rfl, h1, h2⟩ := Reps.cons_inv (d := Dt.i n) (ds := ns.map Dt.i) h
    rw [h1.int_inv, Reps.ints h2]; rfl
theorem Reps.of_ints : ∀ {ns : List Int}, Reps K H (ns.map Dt.i) (ns.map V.int)
  | [] => Reps.nil
  | n :: ns => Reps.cons rep_i Reps.of_ints
theorem Reps.bools : ∀ {ns : List Bool} {vs : List V}, Reps K H (ns.map Dt.b) vs → vs = ns.map V.bl
  | [], _, h => h.nil_inv
  | n :: ns, _, h => by
    obtain ⟨v, r, rfl, h1, h2⟩ := Reps.cons_inv (d := Dt.b n) (ds := ns.map Dt.b) h
    rw [h1.bl_inv, Reps.bools h2]; rfl
end

/-! ### the heap without what may change; the store -/
def hid (M : List Addr) (H : Hp) : Hp := fun a => if a ∈ M then none else H a
theorem hid_ex {M : List Addr} {H : Hp} : Ex (hid M H) H := fun a o h => by
  unfold hid at h
  split at h
  · cases h
  · exact h
theorem hid_of {M : List Addr} {H : Hp} {a : Addr} (h : a ∉ M) : hid M H a = H a := by unfold hid; rw [if_neg h]
theorem hid_in {M : List Addr} {H : Hp} {a : Addr} (h : a ∈ M) : hid M H a = none := by unfold hid; rw [if_pos h]
theorem hid_some {M : List Addr} {H : Hp} {a : Addr} {o : HO} (h : hid M H a = some o) : a ∉ M ∧ H a = some o := by
  unfold hid at h
  split at h
  · cases h
  · exact ⟨by assumption, h⟩
theorem hid_upd {M : List Addr} {H : Hp} {a : Addr} {o : HO} (h : a ∈ M) : hid M (upd H a o) = hid M H := by
  funext b
  unfold hid
  split
  · rfl
  · rw [upd_ne]
    rintro rfl
    contradiction
theorem hid_cons {M : List Addr} {H : Hp} {a : Addr} {o : HO} (h : H a = none) : hid (a :: M) (upd H a o) = hid M H := by
  funext b
  unfold hid
  by_cases e : b = a
  · subst e
    rw [if_pos (by simp), h]
    simp
  · rw [upd_ne e]
    by_cases m : b ∈ M
    · rw [if_pos m, if_pos (List.mem_cons_of_mem _ m)]
    · rw [if_neg m, if_neg (by simp [e, m])]
theorem hid_mono {M M' : List Addr} {H H' : Hp} (e : Ex H H') (s : ∀ a ∈ M', H a ≠ none → a ∈ M) : Ex (hid M H) (hid M' H') := fun a o h => by
  obtain ⟨h1, h2⟩ := hid_some h
  rw [hid_of (fun z => h1 (s a z (by rw [h2]; exact fun z => by cases z)))]
  exact e a o h2

inductive Cel where
  | l (ds : List Dt) | d (ks : List (Int × Int))
abbrev Sto := Addr → Option Cel
def nos : Sto := fun _ => none
def Sto.put (S : Sto) (p : Addr) (c : Cel) : Sto := fun q => if q = p then some c else S q
def Sto.del (S : Sto) (p : Addr) : Sto := fun q => if q = p then none else S q
theorem put_same {S : Sto} {p : Addr} {c : Cel} : S.put p c p = some c := by unfold Sto.put; rw [if_pos rfl]
theorem put_ne {S : Sto} {p q : Addr} {c : Cel} (h : q ≠ p) : S.put p c q = S q := by unfold Sto.put; rw [if_neg h]
theorem del_same {S : Sto} {p : Addr} : S.del p p = none := by unfold Sto.del; rw [if_pos rfl]
theorem del_ne {S : Sto} {p q : Addr} (h : q ≠ p) : S.del p q = S q := by unfold Sto.del; rw [if_neg h]
theorem put_put {S : Sto} {p : Addr} {c c' : Cel} : (S.put p c).put p c' = S.put p c' := by
  funext q; unfold Sto.put; split <;> rfl
theorem del_put {S : Sto} {p : Addr} {c : Cel} (h : S p = none) : (S.put p c).del p = S := by
  funext q
  by_cases e : q = p
  · subst e; rw [del_same, h]
  · rw [del_ne e, put_ne e]

def keysT (ks : List (Int × Int)) : List (List Key × V) := ks.map fun q => ([Sum.inl q.1, Sum.inl q.2], V.bl true)
def CelOk (K : PySem.W.Frag) (M : List Addr) (H : Hp) (p : Addr) : Cel → Prop
  | .l ds => ∃ vs, H p = some (.lst vs) ∧ Reps K (hid M H) ds vs
  | .d ks => H p = some (.dT (keysT ks))
structure Stk (K : PySem.W.Frag) (M : List Addr) (S : Sto) (H : Hp) : Prop where
  dom : ∀ a ∈ M, H a ≠ none
  sto : ∀ p c, S p = some c → p ∈ M ∧ CelOk K M H p c
abbrev Sl := List (Option Dt)
structure Holds (K : PySem.W.Frag) (M : List Addr) (S : Sto) (sl : Sl) (σ : L2.St) (H : Hp) : Prop where
  stk : Stk K M S H
  len : σ.length = sl.length
  val : ∀ (i : Nat) (d : Dt), sl[i]? = some (some d) → ∃ v, σ[i]? = some (some v) ∧ Rep K (hid M H) d v
/-- what a step may do: what it does not own stays; frozen things stay frozen -/
structure Stp (S : Sto) (M : List Addr) (H : Hp) (S' : Sto) (M' : List Addr) (H' : Hp) : Prop where
  same : ∀ x o, S x = none → H x = some o → H' x = some o ∧ S' x = none
  sub : Ex (hid M H) (hid M' H')
  keep : ∀ x o, x ∈ M → H x = some o → S x = none → x ∈ M'
theorem Stp.refl (S : Sto) (M : List Addr) (H : Hp) : Stp S M H S M H := ⟨fun _ _ h e => ⟨e, h⟩, Ex.refl _, fun _ _ h _ _ => h⟩
theorem Stp.trans {S S1 S2 : Sto} {M M1 M2 : List Addr} {H H1 H2 : Hp} (a : Stp S M H S1 M1 H1) (b : Stp S1 M1 H1 S2 M2 H2) : Stp S M H S2 M2 H2 :=
  ⟨fun x o h e => b.same x o (a.same x o h e).2 (a.same x o h e).1, a.sub.trans b.sub, fun x o hm e h => b.keep x o (a.keep x o hm e h) (a.same x o h e).1 (a.same x o h e).2⟩
/-- the heap grows -/
theorem Stp.ext {S : Sto} {M : List Addr} {H H' : Hp} (e : Ex H H') (d : ∀ a ∈ M, H a ≠ none) : Stp S M H S M H' :=
  ⟨fun x o h q => ⟨e x o q, h⟩, hid_mono e fun a h _ => h, fun _ _ h _ _ => h⟩
theorem Stk.ext {K : PySem.W.Frag} {S : Sto} {M : List Addr} {H H' : Hp} (h : Stk K M S H) (e : Ex H H') : Stk K M S H' := by
  have e2 : Ex (hid M H) (hid M H') := hid_mono e fun a h _ => h
  refine ⟨fun a ha z => ?_, fun p c hp => ?_⟩
  · cases q : H a with
    | none => exact h.dom a ha q
    | some o => rw [e a o q] at z; cases z
  · obtain ⟨h1, h2⟩ := h.sto p c hp
    refine ⟨h1, ?_⟩
    cases c with
    | l ds =>
      obtain ⟨vs, h3, h4⟩ := h2
      exact ⟨vs, e p _ h3, h4.mono e2⟩
    | d ks => exact e p _ h2
theorem Holds.step {K : PySem.W.Frag} {M M' : List Addr} {S S' : Sto} {sl : Sl} {σ : L2.St} {H H' : Hp} (h : Holds K M S sl σ H) (k : Stk K M' S' H') (t : Stp S M H S' M' H') : Holds K M' S' sl σ H' :=
  ⟨k, h.len, fun i d e => let ⟨v, h1, h2⟩ := h.val i d e; ⟨v, h1, h2.mono t.sub⟩⟩
theorem Stk.fresh {K : PySem.W.Frag} {M : List Addr} {S : Sto} {H : Hp} (h : Stk K M S H) {p : Addr} (e : H p = none) : p ∉ M ∧ S p = none := by
  have h1 : p ∉ M := fun z => h.dom p z e
  refine ⟨h1, ?_⟩
  cases q : S p with
  | none => rfl
  | some c => exact absurd (h.sto p c q).1 h1
theorem CelOk.mono {K : PySem.W.Frag} {M M' : List Addr} {H H' : Hp} {p : Addr} {c : Cel} (h : CelOk K M H p c) (e : H' p = H p) (s : Ex (hid M H) (hid M' H')) : CelOk K M' H' p c := by
  cases c with
  | l ds =>
    obtain ⟨vs, h3, h4⟩ := h
    exact ⟨vs, e.trans h3, h4.mono s⟩
  | d ks => exact e.trans h
/-- a new object that may change -/
theorem Stk.new {K : PySem.W.Frag} {M : List Addr} {S : Sto} {H : Hp} {p : Addr} {o : HO} {c : Cel} (h : Stk K M S H) (e : H p = none) (ok : CelOk K (p :: M) (upd H p o) p c) : Stk K (p :: M) (S.put p c) (upd H p o) ∧ Stp S M H (S.put p c) (p :: M) (upd H p o) := by
  obtain ⟨hm, hs⟩ := h.fresh e
  refine ⟨⟨fun a ha z => ?_, fun q c' hq => ?_⟩, ⟨fun x u hx hu => ⟨?_, ?_⟩, by rw [hid_cons e]; exact Ex.refl _, fun x _ hx _ _ => List.mem_cons_of_mem _ hx⟩⟩
  · by_cases ea : a = p
    · subst ea; rw [upd_same] at z; cases z
    · rw [upd_ne ea] at z
      rcases List.mem_cons.mp ha with r | r
      · exact ea r
      · exact h.dom a r z
  · by_cases ea : q = p
    · subst ea
      rw [put_same] at hq; cases hq
      exact ⟨List.mem_cons_self, ok⟩
    · rw [put_ne ea] at hq
      obtain ⟨h1, h2⟩ := h.sto q c' hq
      exact ⟨List.mem_cons_of_mem _ h1, h2.mono (upd_ne ea) (by rw [hid_cons e]; exact Ex.refl _)⟩
  · rw [upd_ne (ne_of_none hu e)]; exact hu
  · rw [put_ne (ne_of_none hu e)]; exact hx
/-- a thing of the store is changed -/
theorem Stk.write {K : PySem.W.Frag} {M : List Addr} {S : Sto} {H : Hp} {p : Addr} {o : HO} {c c0 : Cel} (h : Stk K M S H) (e : S p = some c0) (ok : CelOk K M (upd H p o) p c) : Stk K M (S.put p c) (upd H p o) ∧ Stp S M H (S.put p c) M (upd H p o) := by
  obtain ⟨hm, _⟩ := h.sto p c0 e
  refine ⟨⟨fun a ha z => ?_, fun q c' hq => ?_⟩, ⟨fun x u hx hu => ?_, by rw [hid_upd hm]; exact Ex.refl _, fun x _ hx _ _ => hx⟩⟩
  · by_cases ea : a = p
    · subst ea; rw [upd_same] at z; cases z
    · rw [upd_ne ea] at z
      exact h.dom a ha z
  · by_cases ea : q = p
    · subst ea
      rw [put_same] at hq; cases hq
      exact ⟨hm, ok⟩
    · rw [put_ne ea] at hq
      obtain ⟨h1, h2⟩ := h.sto q c' hq
      exact ⟨h1, h2.mono (upd_ne ea) (by rw [hid_upd hm]; exact Ex.refl _)⟩
  · have ne : x ≠ p := fun z => by rw [z, e] at hx; cases hx
    rw [upd_ne ne, put_ne ne]
    exact ⟨hu, hx⟩
def drp (M : List Addr) (p : Addr) : List Addr := M.filter fun q => decide (q ≠ p)
theorem mem_drp {M : List Addr} {p q : Addr} : q ∈ drp M p ↔ q ∈ M ∧ q ≠ p := by
  unfold drp
  rw [List.mem_filter]
  simp
/-- a thing is no more changed -/
theorem Stk.freeze {K : PySem.W.Frag} {M : List Addr} {S : Sto} {H : Hp} {p : Addr} (h : Stk K M S H) : Stk K (drp M p) (S.del p) H ∧ Ex (hid M H) (hid (drp M p) H) := by
  have e2 : Ex (hid M H) (hid (drp M p) H) := hid_mono (Ex.refl _) fun a h _ => (mem_drp.mp h).1
  refine ⟨⟨fun a ha => h.dom a (mem_drp.mp ha).1, fun q c hq => ?_⟩, e2⟩
  by_cases ea : q = p
  · subst ea; rw [del_same] at hq; cases hq
  · rw [del_ne ea] at hq
    obtain ⟨h1, h2⟩ := h.sto q c hq
    exact ⟨mem_drp.mpr ⟨h1, ea⟩, h2.mono rfl e2⟩
theorem stp_freeze {S : Sto} {M : List Addr} {H : Hp} {p : Addr} (own : S p = none → H p ≠ none → False) : Stp S M H (S.del p) (drp M p) H :=
  ⟨fun x o h e => ⟨e, by unfold Sto.del; split; rfl; exact h⟩, hid_mono (Ex.refl _) fun a h _ => (mem_drp.mp h).1, fun x o hm e h => mem_drp.mpr ⟨hm, fun z => by subst z; exact own h (by rw [e]; exact fun z => by cases z)⟩⟩
end Nf

set_option Elab.async false
set_option linter.all false
set_option maxRecDepth 100000
set_option maxHeartbeats 2000000
namespace Nf
open PySem PySem.Spec PyProof.Rows L2

/-! ### readings over data -/
abbrev PD := Dt → Sto → Prop
def Out (K : PySem.W.Frag) (S : Sto) (M : List Addr) (H : Hp) (P : PD) (Q : VK) : Prop :=
  ∀ d S' M' v H', P d S' → Stk K M' S' H' → Stp S M H S' M' H' → Rep K (hid M' H') d v → Q v H'
def OutA (K : PySem.W.Frag) (S : Sto) (M : List Addr) (H : Hp) (P : List Dt → Sto → Prop) (Q : List V → Hp → Prop) : Prop :=
  ∀ d S' M' v H', P d S' → Stk K M' S' H' → Stp S M H S' M' H' → Reps K (hid M' H') d v → Q v H'
def OutT (K : PySem.W.Frag) (S : Sto) (M : List Addr) (H : Hp) (P : Bool → Sto → Prop) (Q : Bool → Hp → Prop) : Prop :=
  ∀ b S' M' H', P b S' → Stk K M' S' H' → Stp S M H S' M' H' → Q b H'
def Ev (K : PySem.W.Frag) (t : TE) (sl : Sl) (S : Sto) (P : PD) : Prop := ∀ M σ H, Holds K M S sl σ H → ∀ Q : VK, Out K S M H P Q → t σ H Q
def EvA (K : PySem.W.Frag) (t : TA) (sl : Sl) (S : Sto) (P : List Dt → Sto → Prop) : Prop := ∀ M σ H, Holds K M S sl σ H → ∀ Q : List V → Hp → Prop, OutA K S M H P Q → t σ H Q
def EvT (K : PySem.W.Frag) (t : TT) (sl : Sl) (S : Sto) (P : Bool → Sto → Prop) : Prop := ∀ M σ H, Holds K M S sl σ H → ∀ Q : Bool → Hp → Prop, OutT K S M H P Q → t σ H Q
/-- an operation on values, over data -/
def Rv (K : PySem.W.Frag) (r : R2) (x y : Dt) (S : Sto) (P : PD) : Prop := ∀ M H v w, Stk K M S H → Rep K (hid M H) x v → Rep K (hid M H) y w → ∀ Q, Out K S M H P Q → r v w H Q
def Ru (K : PySem.W.Frag) (r : V → Hp → VK → Prop) (x : Dt) (S : Sto) (P : PD) : Prop := ∀ M H v, Stk K M S H → Rep K (hid M H) x v → ∀ Q, Out K S M H P Q → r v H Q
def Rc (K : PySem.W.Frag) (r : List V → Hp → VK → Prop) (xs : List Dt) (S : Sto) (P : PD) : Prop := ∀ M H vs, Stk K M S H → Reps K (hid M H) xs vs → ∀ Q, Out K S M H P Q → r vs H Q

section
variable {K : PySem.W.Frag} {S S1 : Sto} {M M1 : List Addr} {H H1 : Hp} {P P' : PD} {Q : VK}
theorem Out.after (h : Out K S M H P Q) (t : Stp S M H S1 M1 H1) : Out K S1 M1 H1 P Q := fun d S' M' v H' p k s r => h d S' M' v H' p k (t.trans s) r
theorem Out.mono (h : Out K S M H P Q) (i : ∀ d S', P' d S' → P d S') : Out K S M H P' Q := fun d S' M' v H' p k s r => h d S' M' v H' (i d S' p) k s r
theorem Out.at (h : Out K S M H P Q) {d : Dt} {v : V} (p : P d S) (k : Stk K M S H) (r : Rep K (hid M H) d v) : Q v H := h d S M v H p k (Stp.refl _ _ _) r
/-- the heap has grown by a frozen thing -/
theorem Out.grow (h : Out K S M H P Q) {d : Dt} {v : V} {p : Addr} {o : HO} (hp : P d S) (k : Stk K M S H) (e : H p = none) (r : Rep K (hid M (upd H p o)) d v) : Q v (upd H p o) :=
  h d S M v _ hp (k.ext (Ex.new e)) (Stp.ext (Ex.new e) k.dom) r
end
theorem hid_new {K : PySem.W.Frag} {M : List Addr} {S : Sto} {H : Hp} {p : Addr} {o : HO} (k : Stk K M S H) (e : H p = none) : hid M (upd H p o) p = some o := by
  rw [hid_of (k.fresh e).1, upd_same]
theorem ex_new {M : List Addr} {H : Hp} {p : Addr} {o : HO} (e : H p = none) : Ex (hid M H) (hid M (upd H p o)) := hid_mono (Ex.new e) fun a h _ => h

section
variable {K : PySem.W.Frag} {S : Sto} {sl : Sl} {P P' : PD} {ta tb tc te : TE} {tt tu : TT} {tr : TA}
theorem Ev.mono (h : Ev K te sl S P') (i : ∀ d S', P' d S' → P d S') : Ev K te sl S P := fun M σ H hd Q o => h M σ H hd Q (o.mono i)
theorem EvT.mono {P P' : Bool → Sto → Prop} (h : EvT K tt sl S P') (i : ∀ d S', P' d S' → P d S') : EvT K tt sl S P := fun M σ H hd Q o => h M σ H hd Q fun b S' M' H' p => o b S' M' H' (i b S' p)
theorem ev_var {i : Nat} {d : Dt} (h : sl[i]? = some (some d)) (p : P d S) : Ev K (tVar i) sl S P := fun M σ H hd Q o => by
  obtain ⟨v, h1, h2⟩ := hd.val i d h
  exact ⟨v, h1, o.at p hd.stk h2⟩
theorem ev_int {k : Int} (p : P (.i k) S) : Ev K (tC (.int k)) sl S P := fun M σ H hd Q o => o.at p hd.stk rep_i
theorem ev_bl {k : Bool} (p : P (.b k) S) : Ev K (tC (.bl k)) sl S P := fun M σ H hd Q o => o.at p hd.stk rep_b
theorem ev_str {k : Str} (p : P (.s k) S) : Ev K (tC (.str k)) sl S P := fun M σ H hd Q o => o.at p hd.stk rep_s
theorem ev_non (p : P .n S) : Ev K (tC .non) sl S P := fun M σ H hd Q o => o.at p hd.stk rep_n
/-- a thing of the written part -/
theorem ev_glob {v : V} {d : Dt} (r : ∀ H, Rep K H d v) (p : P d S) : Ev K (tC v) sl S P := fun M σ H hd Q o => o.at p hd.stk (r _)
theorem ev_op {r : R2} (h : Ev K ta sl S fun x S1 => Ev K tb sl S1 fun y S2 => Rv K r x y S2 P) : Ev K (tOp r ta tb) sl S P := fun M σ H hd Q o =>
  h M σ H hd _ fun x S1 M1 v H1 p1 k1 s1 r1 => p1 M1 σ H1 (hd.step k1 s1) _ fun y S2 M2 w H2 p2 k2 s2 r2 => p2 M2 H2 v w k2 (r1.mono s2.sub) r2 Q ((o.after s1).after s2)
theorem ev_un {r : V → Hp → VK → Prop} (h : Ev K ta sl S fun x S1 => Ru K r x S1 P) : Ev K (tUn r ta) sl S P := fun M σ H hd Q o =>
  h M σ H hd _ fun x S1 M1 v H1 p1 k1 s1 r1 => p1 M1 H1 v k1 r1 Q (o.after s1)
theorem ea_nil {P : List Dt → Sto → Prop} (p : P [] S) : EvA K tNil sl S P := fun M σ H hd Q o => o [] S M [] H p hd.stk (Stp.refl _ _ _) Reps.nil
theorem ea_cons {P : List Dt → Sto → Prop} (h : Ev K ta sl S fun x S1 => EvA K tr sl S1 fun xs S2 => P (x :: xs) S2) : EvA K (tCons ta tr) sl S P := fun M σ H hd Q o =>
  h M σ H hd _ fun x S1 M1 v H1 p1 k1 s1 r1 => p1 M1 σ H1 (hd.step k1 s1) _ fun xs S2 M2 vs H2 p2 k2 s2 r2 =>
    o (x :: xs) S2 M2 (v :: vs) H2 p2 k2 (s1.trans s2) (Reps.cons (r1.mono s2.sub) r2)
theorem ev_cb {r : List V → Hp → VK → Prop} (h : EvA K tr sl S fun xs S1 => Rc K r xs S1 P) : Ev K (tCB r tr) sl S P := fun M σ H hd Q o =>
  h M σ H hd _ fun xs S1 M1 vs H1 p1 k1 s1 r1 => p1 M1 H1 vs k1 r1 Q (o.after s1)
/-- a new tuple -/
theorem ev_tup (h : EvA K tr sl S fun ds S1 => ds.length ≤ 100000 ∧ P (.t ds) S1) : Ev K (tTup tr) sl S P := fun M σ H hd Q o =>
  h M σ H hd _ fun ds S1 M1 vs H1 p1 k1 s1 r1 => ⟨by rw [← r1.len]; exact Nat.le_trans p1.1 (by decide), fun p hp =>
    (o.after s1).grow p1.2 k1 hp (rep_t (.inl (.inl (hid_new k1 hp))) (r1.mono (ex_new hp)))⟩
/-- a new list, frozen -/
theorem ev_lst (h : EvA K tr sl S fun ds S1 => ds.length ≤ 100000 ∧ P (.l ds) S1) : Ev K (tLst tr) sl S P := fun M σ H hd Q o =>
  h M σ H hd _ fun ds S1 M1 vs H1 p1 k1 s1 r1 => ⟨by rw [← r1.len]; exact Nat.le_trans p1.1 (by decide), fun p hp =>
    (o.after s1).grow p1.2 k1 hp (rep_l (.inl (.inl (hid_new k1 hp))) (r1.mono (ex_new hp)))⟩
/-- a new list that may change, as an outcome -/
theorem Out.newL {M : List Addr} {H : Hp} {Q : VK} (o : Out K S M H P Q) {ds : List Dt} {vs : List V} {p : Addr} (hP : P (.a p) (S.put p (.l ds))) (k : Stk K M S H) (e : H p = none) (r : Reps K (hid M H) ds vs) : Q (.ref p) (upd H p (.lst vs)) := by
  obtain ⟨k2, s2⟩ := k.new (c := .l ds) e (show CelOk K (p :: M) (upd H p (.lst vs)) p (.l ds) from ⟨vs, upd_same, by rw [hid_cons e]; exact r⟩)
  exact o (.a p) _ _ _ _ hP k2 s2 rep_a
theorem ev_lstA (h : EvA K tr sl S fun ds S1 => ds.length ≤ 100000 ∧ ∀ p, S1 p = none → P (.a p) (S1.put p (.l ds))) : Ev K (tLst tr) sl S P := fun M σ H hd Q o =>
  h M σ H hd _ fun ds S1 M1 vs H1 p1 k1 s1 r1 => ⟨by rw [← r1.len]; exact Nat.le_trans p1.1 (by decide), fun p hp =>
    (o.after s1).newL (p1.2 p (k1.fresh hp).2) k1 hp r1⟩
theorem ev_if (h : EvT K tt sl S fun c S1 => (c = true → Ev K ta sl S1 P) ∧ (c = false → Ev K tb sl S1 P)) : Ev K (tIf tt ta tb) sl S P := fun M σ H hd Q o =>
  h M σ H hd _ fun c S1 M1 H1 p1 k1 s1 => by
    cases c with
    | true => exact p1.1 rfl M1 σ H1 (hd.step k1 s1) Q (o.after s1)
    | false => exact p1.2 rfl M1 σ H1 (hd.step k1 s1) Q (o.after s1)
theorem ev_and (h : Ev K ta sl S fun x S1 => ∃ c, x = .b c ∧ (c = true → Ev K tb sl S1 P) ∧ (c = false → P (.b false) S1)) : Ev K (tAndV ta tb) sl S P := fun M σ H hd Q o =>
  h M σ H hd _ fun x S1 M1 v H1 p1 k1 s1 r1 => by
    obtain ⟨c, rfl, h1, h2⟩ := p1
    refine ⟨c, r1.bl_inv, ?_⟩
    cases c with
    | true => exact h1 rfl M1 σ H1 (hd.step k1 s1) Q (o.after s1)
    | false => exact (o.after s1).at (h2 rfl) k1 rep_b
theorem ev_or (h : Ev K ta sl S fun x S1 => ∃ c, x = .b c ∧ (c = false → Ev K tb sl S1 P) ∧ (c = true → P (.b true) S1)) : Ev K (tOrV ta tb) sl S P := fun M σ H hd Q o =>
  h M σ H hd _ fun x S1 M1 v H1 p1 k1 s1 r1 => by
    obtain ⟨c, rfl, h1, h2⟩ := p1
    refine ⟨c, r1.bl_inv, ?_⟩
    cases c with
    | false => exact h1 rfl M1 σ H1 (hd.step k1 s1) Q (o.after s1)
    | true => exact (o.after s1).at (h2 rfl) k1 rep_b
theorem ev_not (h : Ev K ta sl S fun x S1 => ∃ c, x = .b c ∧ P (.b (!c)) S1) : Ev K (tNotV ta) sl S P := fun M σ H hd Q o =>
  h M σ H hd _ fun x S1 M1 v H1 p1 k1 s1 r1 => by
    obtain ⟨c, rfl, h1⟩ := p1
    exact ⟨c, r1.bl_inv, (o.after s1).at h1 k1 rep_b⟩
theorem ev_chain {r r' : R2} (h : Ev K ta sl S fun x S1 => Ev K tb sl S1 fun y S2 => Rv K r x y S2 fun z S3 => ∃ c, z = .b c ∧ (c = true → Ev K tc sl S3 fun w S4 => Rv K r' y w S4 P) ∧ (c = false → P (.b false) S3)) : Ev K (tChain r r' ta tb tc) sl S P := fun M σ H hd Q o =>
  h M σ H hd _ fun x S1 M1 v H1 p1 k1 s1 r1 => p1 M1 σ H1 (hd.step k1 s1) _ fun y S2 M2 w H2 p2 k2 s2 r2 => p2 M2 H2 v w k2 (r1.mono s2.sub) r2 _ fun z S3 M3 u H3 p3 k3 s3 r3 => by
    obtain ⟨c, rfl, h1, h2⟩ := p3
    refine ⟨c, r3.bl_inv, ?_⟩
    cases c with
    | true =>
      refine h1 rfl M3 σ H3 (((hd.step k1 s1).step k2 s2).step k3 s3) _ fun a S4 M4 b H4 p4 k4 s4 r4 => ?_
      exact p4 M4 H4 w b k4 ((r2.mono s3.sub).mono s4.sub) r4 Q ((((o.after s1).after s2).after s3).after s4)
    | false => exact (((o.after s1).after s2).after s3).at (h2 rfl) k3 rep_b
theorem et_test {P : Bool → Sto → Prop} (h : Ev K te sl S fun x S1 => ∃ c, x = .b c ∧ P c S1) : EvT K (tTest te) sl S P := fun M σ H hd Q o =>
  h M σ H hd _ fun x S1 M1 v H1 p1 k1 s1 r1 => by
    obtain ⟨c, rfl, h1⟩ := p1
    exact ⟨c, r1.bl_inv, o c S1 M1 H1 h1 k1 s1⟩
theorem et_B {P : Bool → Sto → Prop} (h : Ev K te sl S fun x S1 => ∃ c, x = .b c ∧ P c S1) : EvT K (tB te) sl S P := fun M σ H hd Q o =>
  h M σ H hd _ fun x S1 M1 v H1 p1 k1 s1 r1 => by
    obtain ⟨c, rfl, h1⟩ := p1
    exact ⟨c, r1.bl_inv, o c S1 M1 H1 h1 k1 s1⟩
theorem et_and {P : Bool → Sto → Prop} (h : EvT K tt sl S fun c S1 => (c = true → EvT K tu sl S1 P) ∧ (c = false → P false S1)) : EvT K (tAnd tt tu) sl S P := fun M σ H hd Q o =>
  h M σ H hd _ fun c S1 M1 H1 p1 k1 s1 => by
    cases c with
    | true => exact p1.1 rfl M1 σ H1 (hd.step k1 s1) Q fun b S' M' H' p k s => o b S' M' H' p k (s1.trans s)
    | false => exact o false S1 M1 H1 (p1.2 rfl) k1 s1
theorem et_or {P : Bool → Sto → Prop} (h : EvT K tt sl S fun c S1 => (c = false → EvT K tu sl S1 P) ∧ (c = true → P true S1)) : EvT K (tOr tt tu) sl S P := fun M σ H hd Q o =>
  h M σ H hd _ fun c S1 M1 H1 p1 k1 s1 => by
    cases c with
    | false => exact p1.1 rfl M1 σ H1 (hd.step k1 s1) Q fun b S' M' H' p k s => o b S' M' H' p k (s1.trans s)
    | true => exact o true S1 M1 H1 (p1.2 rfl) k1 s1
theorem et_not {P : Bool → Sto → Prop} (h : EvT K tt sl S fun c S1 => P (!c) S1) : EvT K (tNot tt) sl S P := fun M σ H hd Q o =>
  h M σ H hd _ fun c S1 M1 H1 p1 k1 s1 => o (!c) S1 M1 H1 p1 k1 s1
theorem et_yes {P : Bool → Sto → Prop} (h : P true S) : EvT K tYes sl S P := fun M σ H hd Q o => o true S M H h hd.stk (Stp.refl _ _ _)
end

/-! ### promises -/
def spP (K : PySem.W.Frag) (Rl : List Dt → Dt → Prop) : Sp := fun vs H Q _ => ∃ (M : List Addr) (ds : List Dt) (r : Dt), (∀ a ∈ M, H a ≠ none) ∧ Reps K (hid M H) ds vs ∧ Rl ds r ∧ ∀ v H', Ex H H' → Rep K (hid M H') r v → Q v H'
theorem ev_call {K : PySem.W.Frag} {S : Sto} {sl : Sl} {P : PD} {Rl : List Dt → Dt → Prop} {E : XK} {tr : TA} (h : EvA K tr sl S fun ds S1 => ∃ r, Rl ds r ∧ P r S1) : Ev K (tCall (spP K Rl) [] E tr) sl S P := fun M σ H hd Q o =>
  h M σ H hd _ fun ds S1 M1 vs H1 p1 k1 s1 r1 => by
    obtain ⟨r, h1, h2⟩ := p1
    refine ⟨M1, ds, r, k1.dom, by rw [List.append_nil]; exact r1, h1, fun v H' e q => ?_⟩
    exact o r S1 M1 v H' h2 (k1.ext e) (s1.trans (Stp.ext e k1.dom)) q
/-- a promise over the store: what is at hand is S, what may come is told -/
def spS (K : PySem.W.Frag) (Rl : List Dt → Sto → (Dt → Sto → Prop) → Prop) : Sp := fun vs H Q _ => ∃ (M : List Addr) (S : Sto) (ds : List Dt) (P : PD), Stk K M S H ∧ Reps K (hid M H) ds vs ∧ Rl ds S P ∧ Out K S M H P Q
theorem ev_callS {K : PySem.W.Frag} {S : Sto} {sl : Sl} {P : PD} {Rl : List Dt → Sto → (Dt → Sto → Prop) → Prop} {E : XK} {tr : TA} (h : EvA K tr sl S fun ds S1 => Rl ds S1 P) : Ev K (tCall (spS K Rl) [] E tr) sl S P := fun M σ H hd Q o =>
  h M σ H hd _ fun ds S1 M1 vs H1 p1 k1 s1 r1 => ⟨M1, S1, ds, P, k1, by rw [List.append_nil]; exact r1, p1, o.after s1⟩

/-! ### statements -/
abbrev NX := Sl → Sto → Prop
def WP (K : PySem.W.Frag) (t : TS) (sl : Sl) (S : Sto) (N : NX) (R : PD) : Prop := ∀ M σ H (D : Ends), Holds K M S sl σ H →
  (∀ sl' S' M' σ' H', N sl' S' → Holds K M' S' sl' σ' H' → Stp S M H S' M' H' → D.nx σ' H') → Out K S M H R D.rt → t D σ H
def setE (sl : Sl) (i : Nat) (d : Dt) : Sl := sl.set i (some d)
section
variable {K : PySem.W.Frag} {S : Sto} {sl : Sl} {N N' : NX} {R R' : PD} {te : TE} {tt : TT} {tu tw : TS}
theorem WP.mono (h : WP K tu sl S N' R') (i : ∀ sl' S', N' sl' S' → N sl' S') (j : ∀ d S', R' d S' → R d S') : WP K tu sl S N R := fun M σ H D hd n o =>
  h M σ H D hd (fun sl' S' M' σ' H' p => n sl' S' M' σ' H' (i _ _ p)) (o.mono j)
theorem wp_next (h : N sl S) : WP K tNext sl S N R := fun M σ H D hd n _ => n sl S M σ H h hd (Stp.refl _ _ _)
theorem wp_seq (h : WP K tu sl S (fun sl1 S1 => WP K tw sl1 S1 N R) R) : WP K (tSeq tu tw) sl S N R := fun M σ H D hd n o =>
  h M σ H { D with nx := tw D } hd (fun sl1 S1 M1 σ1 H1 p1 hd1 s1 => p1 M1 σ1 H1 D hd1 (fun sl2 S2 M2 σ2 H2 p2 hd2 s2 => n sl2 S2 M2 σ2 H2 p2 hd2 (s1.trans s2)) (o.after s1)) o
theorem Holds.set {M : List Addr} {σ : L2.St} {H : Hp} {i : Nat} {d : Dt} {v : V} (h : Holds K M S sl σ H) (r : Rep K (hid M H) d v) : Holds K M S (setE sl i d) (σ.set i (some v)) H := by
  refine ⟨h.stk, by unfold setE; rw [List.length_set, List.length_set]; exact h.len, fun j e q => ?_⟩
  unfold setE at q
  by_cases ji : i = j
  · subst ji
    have hl : i < sl.length := by
      have := (List.getElem?_eq_some_iff.mp q).1
      rw [List.length_set] at this
      exact this
    rw [List.getElem?_set_self hl] at q
    cases q
    exact ⟨v, by rw [List.getElem?_set_self (by rw [h.len]; exact hl)], r⟩
  · rw [List.getElem?_set_ne ji] at q
    obtain ⟨w, h1, h2⟩ := h.val j e q
    exact ⟨w, by rw [List.getElem?_set_ne ji]; exact h1, h2⟩
theorem wp_asg {i : Nat} (h : Ev K te sl S fun d S1 => N (setE sl i d) S1) : WP K (tAsg te (gName i)) sl S N R := fun M σ H D hd n _ =>
  h M σ H hd _ fun d S1 M1 v H1 p1 k1 s1 r1 => n _ S1 M1 _ H1 p1 ((hd.step k1 s1).set r1) s1
theorem wp_drop (h : Ev K te sl S fun _ S1 => N sl S1) : WP K (tDrop te) sl S N R := fun M σ H D hd n _ =>
  h M σ H hd _ fun d S1 M1 v H1 p1 k1 s1 r1 => n _ S1 M1 _ H1 p1 (hd.step k1 s1) s1
theorem wp_ret (h : Ev K te sl S R) : WP K (tRet te) sl S N R := fun M σ H D hd _ o => h M σ H hd _ o
theorem wp_if (h : EvT K tt sl S fun c S1 => (c = true → WP K tu sl S1 N R) ∧ (c = false → WP K tw sl S1 N R)) : WP K (tIfS tt tu tw) sl S N R := fun M σ H D hd n o =>
  h M σ H hd _ fun c S1 M1 H1 p1 k1 s1 => by
    cases c with
    | true => exact p1.1 rfl M1 σ H1 D (hd.step k1 s1) (fun sl2 S2 M2 σ2 H2 p2 hd2 s2 => n sl2 S2 M2 σ2 H2 p2 hd2 (s1.trans s2)) (o.after s1)
    | false => exact p1.2 rfl M1 σ H1 D (hd.step k1 s1) (fun sl2 S2 M2 σ2 H2 p2 hd2 s2 => n sl2 S2 M2 σ2 H2 p2 hd2 (s1.trans s2)) (o.after s1)
theorem wp_par {i j : Nat} {ta : TA} (h : EvA K ta sl S fun ds S1 => ∃ x y, ds = [x, y] ∧ N (setE (setE sl i x) j y) S1) : WP K (tPar i j ta) sl S N R := fun M σ H D hd n _ =>
  h M σ H hd _ fun ds S1 M1 vs H1 p1 k1 s1 r1 => by
    obtain ⟨x, y, rfl, p⟩ := p1
    obtain ⟨v, w, rfl, q1, q2⟩ := r1.two
    exact ⟨v, w, rfl, n _ S1 M1 _ H1 p (((hd.step k1 s1).set q1).set q2) s1⟩
/-- a, b, .. = a tuple of that length -/
def setA (sl : Sl) : List Nat → List Dt → Sl
  | j :: js, d :: ds => setA (setE sl j d) js ds
  | _, _ => sl
def setV (σ : L2.St) : List Nat → List V → L2.St
  | j :: js, d :: ds => setV (σ.set j (some d)) js ds
  | _, _ => σ
theorem Holds.setA {M : List Addr} {H : Hp} : ∀ {js : List Nat} {ds : List Dt} {vs : List V} {sl : Sl} {σ : L2.St}, Holds K M S sl σ H → Reps K (hid M H) ds vs → Holds K M S (setA sl js ds) (setV σ js vs) H
  | [], ds, vs, sl, σ, h, r => by cases ds <;> cases vs <;> exact h
  | j :: js, [], vs, sl, σ, h, r => by rw [r.nil_inv]; exact h
  | j :: js, d :: ds, vs, sl, σ, h, r => by
    obtain ⟨v, vr, rfl, h1, h2⟩ := r.cons_inv
    have q := Holds.setA (js := js) (ds := ds) (vs := vr) (h.set (i := j) h1) h2
    exact q
/-- what a target is: the slots that it sets, of a thing that comes -/
structure Tg (K : PySem.W.Frag) (g : TG) (js : List Nat) (un : Dt → List Dt → Prop) : Prop where
  run : ∀ (M : List Addr) (H : Hp) (σ : L2.St) (d : Dt) (v : V) (ds : List Dt), un d ds → Rep K (hid M H) d v → ∃ vs, Reps K (hid M H) ds vs ∧ ∀ Q, Q (setV σ js vs) H → g v σ H Q
theorem tg_name {j : Nat} : Tg K (gName j) [j] fun d ds => ds = [d] := ⟨fun M H σ d v ds e r => by
  subst e
  exact ⟨[v], Reps.cons r Reps.nil, fun Q q => q⟩⟩
def gsN : List Nat → TGs
  | [] => gNil
  | j :: js => gCons (gName j) (gsN js)
theorem gsN_run {H : Hp} {Q : L2.St → Hp → Prop} : ∀ {js : List Nat} {vs : List V} {σ : L2.St}, vs.length = js.length → Q (setV σ js vs) H → gsN js vs σ H Q
  | [], [], σ, _, q => ⟨rfl, q⟩
  | j :: js, v :: vs, σ, e, q => ⟨v, vs, rfl, gsN_run (js := js) (by simpa using e) q⟩
theorem tg_tup {js : List Nat} {n : Nat} (hn : js.length = n) : Tg K (gTup K n (gsN js)) js fun d ds => d = .t ds ∧ ds.length = n := ⟨fun M H σ d v ds e r => by
  obtain ⟨rfl, e⟩ := e
  obtain ⟨a, vs, rfl, h1, h2⟩ := r.t_inv
  have hl := h2.len
  exact ⟨vs, h2, fun Q q => ⟨a, vs, rfl, ex_t hid_ex h1, by omega, gsN_run (by omega) q⟩⟩⟩
theorem wp_asgG {g : TG} {js : List Nat} {un : Dt → List Dt → Prop} (tg : Tg K g js un) (h : Ev K te sl S fun d S1 => ∃ ds, un d ds ∧ N (setA sl js ds) S1) : WP K (tAsg te g) sl S N R := fun M σ H D hd n _ =>
  h M σ H hd _ fun d S1 M1 v H1 p1 k1 s1 r1 => by
    obtain ⟨ds, hu, p⟩ := p1
    obtain ⟨vs, q1, q2⟩ := tg.run M1 H1 σ d v ds hu r1
    exact q2 _ (n _ S1 M1 _ H1 p ((hd.step k1 s1).setA q1) s1)
/-- while: I by a measure -/
theorem wp_while (I : Nat → NX) (h0 : ∃ m, I m sl S) (hs : ∀ m sl S, I m sl S → EvT K tt sl S fun c S1 => (c = true → WP K tu sl S1 (fun sl2 S2 => ∃ m', m' < m ∧ I m' sl2 S2) R) ∧ (c = false → N sl S1)) : WP K (tWhile tt tu) sl S N R := fun M σ H D hd n o => by
  obtain ⟨m0, h0⟩ := h0
  refine ⟨fun m σ' H' => ∃ sl' S' M', I m sl' S' ∧ Holds K M' S' sl' σ' H' ∧ Stp S M H S' M' H', ⟨m0, sl, S, M, h0, hd, Stp.refl _ _ _⟩, ?_⟩
  rintro m σ' H' ⟨sl', S', M', i1, hd1, s1⟩
  refine hs m sl' S' i1 M' σ' H' hd1 _ fun c S2 M2 H2 p2 k2 s2 => ?_
  have hd2 := hd1.step k2 s2
  cases c with
  | true =>
    rw [if_pos rfl]
    refine ⟨fun σ3 H3 => ∃ m', m' < m ∧ ∃ sl3 S3 M3, I m' sl3 S3 ∧ Holds K M3 S3 sl3 σ3 H3 ∧ Stp S M H S3 M3 H3, fun σ3 H3 z => z, ?_⟩
    refine p2.1 rfl M2 σ' H2 _ hd2 (fun sl3 S3 M3 σ3 H3 p3 hd3 s3 => ?_) ((o.after s1).after s2)
    obtain ⟨m', hm, i3⟩ := p3
    exact ⟨m', hm, sl3, S3, M3, i3, hd3, (s1.trans s2).trans s3⟩
  | false =>
    rw [if_neg Bool.false_ne_true]
    exact n sl' S2 M2 σ' H2 (p2.2 rfl) hd2 (s1.trans s2)
/-- a thing of the store is no more changed, its name tells what it is -/
theorem wp_freeze {i : Nat} {p : Addr} {ds : List Dt} (h1 : sl[i]? = some (some (.a p))) (h2 : S p = some (.l ds)) (h : WP K tu (setE sl i (.l ds)) (S.del p) N R) : WP K tu sl S N R := fun M σ H D hd n o => by
  obtain ⟨hm, vs, e1, e2⟩ := hd.stk.sto p _ h2
  obtain ⟨k1, x1⟩ := hd.stk.freeze (p := p)
  have s1 : Stp S M H (S.del p) (drp M p) H := stp_freeze fun z _ => by rw [z] at h2; cases h2
  obtain ⟨v, g1, g2⟩ := hd.val i _ h1
  have hv := g2.a_inv
  subst hv
  have r : Rep K (hid (drp M p) H) (.l ds) (.ref p) := rep_l (.inl (.inl (by rw [hid_of (fun z => (mem_drp.mp z).2 rfl)]; exact e1))) (e2.mono x1)
  have hd1 : Holds K (drp M p) (S.del p) (setE sl i (.l ds)) σ H := by
    have q := (hd.step k1 s1).set (i := i) r
    have e : σ.set i (some (V.ref p)) = σ := by
      apply List.ext_getElem?
      intro j
      by_cases ij : i = j
      · subst ij
        rw [List.getElem?_set_self (List.getElem?_eq_some_iff.mp g1).1, g1]
      · rw [List.getElem?_set_ne ij]
    rw [e] at q
    exact q
  exact h (drp M p) σ H D hd1 (fun sl' S' M' σ' H' q1 q2 q3 => n sl' S' M' σ' H' q1 q2 (s1.trans q3)) (o.after s1)
end
end Nf

set_option Elab.async false
set_option linter.all false
set_option maxRecDepth 100000
set_option maxHeartbeats 2000000
namespace Nf
open PySem PySem.Spec PyProof.Rows L2 RT RZ

/-! ### what is walked -/
structure Yl (K : PySem.W.Frag) (J : It) (ds : List Dt) (S : Sto) (M : List Addr) (H : Hp) : Prop where
  go : ∀ (S2 : Sto) (M2 : List Addr) (H2 : Hp), Stp S M H S2 M2 H2 → Stk K M2 S2 H2 → ∀ i, i < ds.length → J.go i H2
  yl : ∀ (S2 : Sto) (M2 : List Addr) (H2 : Hp), Stp S M H S2 M2 H2 → Stk K M2 S2 H2 → ∀ i x H3, i < ds.length → J.yld i H2 x H3 → Stk K M2 S2 H3 ∧ Stp S2 M2 H2 S2 M2 H3 ∧ ∃ d, ds[i]? = some d ∧ Rep K (hid M2 H3) d x
  st : ∀ (S2 : Sto) (M2 : List Addr) (H2 : Hp), Stp S M H S2 M2 H2 → Stk K M2 S2 H2 → J.stop ds.length H2
def EvI (K : PySem.W.Frag) (wi : TI) (sl : Sl) (S : Sto) (P : List Dt → Sto → Prop) : Prop := ∀ M σ H, Holds K M S sl σ H → ∀ R : It → Hp → Prop,
  (∀ J ds S' M' H', P ds S' → Stk K M' S' H' → Stp S M H S' M' H' → Yl K J ds S' M' H' → R J H') → wi σ H R
section
variable {K : PySem.W.Frag} {S : Sto} {sl : Sl} {P : List Dt → Sto → Prop} {te : TE} {tr : TA}
theorem ei_list (h : Ev K te sl S fun d S1 => ∃ ds, d = .l ds ∧ P ds S1) : EvI K (iList K te) sl S P := fun M σ H hd R o => by
  refine h M σ H hd _ fun d S1 M1 v H1 p1 k1 s1 r1 => ?_
  obtain ⟨ds, rfl, p⟩ := p1
  obtain ⟨a, vs, rfl, q1, q2⟩ := r1.l_inv
  refine ⟨a, rfl, ⟨vs, ex_l hid_ex q1⟩, o _ ds S1 M1 H1 p k1 s1 ⟨fun S2 M2 H2 s k i hi => ?_, fun S2 M2 H2 s k i x H3 hi y => ?_, fun S2 M2 H2 s k => ?_⟩⟩
  · have hl := q2.len
    exact ⟨vs, vs[i]'(by omega), ex_l (s.sub.trans hid_ex) q1, by simp [show i < vs.length by omega]⟩
  · obtain ⟨rfl, y⟩ := y
    obtain ⟨d, h1, h2⟩ := Reps.get' q2 (y vs (ex_l (s.sub.trans hid_ex) q1))
    exact ⟨k, Stp.refl _ _ _, d, h1, h2.mono s.sub⟩
  · exact ⟨vs, ex_l (s.sub.trans hid_ex) q1, by rw [q2.len]; exact Nat.le_refl _⟩
theorem ei_tup (h : Ev K te sl S fun d S1 => ∃ ds, d = .t ds ∧ P ds S1) : EvI K (iTup K te) sl S P := fun M σ H hd R o => by
  refine h M σ H hd _ fun d S1 M1 v H1 p1 k1 s1 r1 => ?_
  obtain ⟨ds, rfl, p⟩ := p1
  obtain ⟨a, vs, rfl, q1, q2⟩ := r1.t_inv
  refine ⟨a, rfl, ⟨vs, ex_t hid_ex q1⟩, o _ ds S1 M1 H1 p k1 s1 ⟨fun S2 M2 H2 s k i hi => ?_, fun S2 M2 H2 s k i x H3 hi y => ?_, fun S2 M2 H2 s k => ?_⟩⟩
  · have hl := q2.len
    exact ⟨vs, vs[i]'(by omega), ex_t (s.sub.trans hid_ex) q1, by simp [show i < vs.length by omega]⟩
  · obtain ⟨rfl, y⟩ := y
    obtain ⟨d, h1, h2⟩ := Reps.get' q2 (y vs (ex_t (s.sub.trans hid_ex) q1))
    exact ⟨k, Stp.refl _ _ _, d, h1, h2.mono s.sub⟩
  · exact ⟨vs, ex_t (s.sub.trans hid_ex) q1, by rw [q2.len]; exact Nat.le_refl _⟩
theorem rev_at {α : Type} {xs : List α} {i : Nat} (h : i < xs.length) : xs.reverse[i]? = xs[xs.length - 1 - i]? := List.getElem?_reverse h
/-- reversed(list or tuple) -/
theorem ei_rev (h : Ev K te sl S fun d S1 => ∃ ds, (d = .l ds ∨ d = .t ds) ∧ P ds.reverse S1) : EvI K (iRevA K te) sl S P := fun M σ H hd R o => by
  refine h M σ H hd _ fun d S1 M1 v H1 p1 k1 s1 r1 => ?_
  obtain ⟨ds, e, p⟩ := p1
  rcases e with rfl | rfl
  · obtain ⟨a, vs, rfl, q1, q2⟩ := r1.l_inv
    have hl := q2.len
    refine ⟨a, vs, rfl, .inl ⟨ex_l hid_ex q1, o _ ds.reverse S1 M1 H1 p k1 s1 ⟨fun S2 M2 H2 s k i hi => ?_, fun S2 M2 H2 s k i x H3 hi y => ?_, fun S2 M2 H2 s k => ?_⟩⟩⟩
    · rw [List.length_reverse] at hi
      exact ⟨by omega, vs, vs[vs.length - 1 - i]'(by omega), ex_l (s.sub.trans hid_ex) q1, by simp [show vs.length - 1 - i < vs.length by omega]⟩
    · rw [List.length_reverse] at hi
      obtain ⟨rfl, y⟩ := y
      obtain ⟨d, h1, h2⟩ := Reps.get' q2 (y vs (ex_l (s.sub.trans hid_ex) q1))
      exact ⟨k, Stp.refl _ _ _, d, by rw [rev_at hi, hl]; exact h1, h2.mono s.sub⟩
    · show vs.length ≤ ds.reverse.length
      rw [List.length_reverse, hl]; exact Nat.le_refl _
  · obtain ⟨a, vs, rfl, q1, q2⟩ := r1.t_inv
    have hl := q2.len
    refine ⟨a, vs, rfl, .inr ⟨ex_t hid_ex q1, o _ ds.reverse S1 M1 H1 p k1 s1 ⟨fun S2 M2 H2 s k i hi => ?_, fun S2 M2 H2 s k i x H3 hi y => ?_, fun S2 M2 H2 s k => ?_⟩⟩⟩
    · rw [List.length_reverse] at hi
      exact ⟨by omega, vs, vs[vs.length - 1 - i]'(by omega), ex_t (s.sub.trans hid_ex) q1, by simp [show vs.length - 1 - i < vs.length by omega]⟩
    · rw [List.length_reverse] at hi
      obtain ⟨rfl, y⟩ := y
      obtain ⟨d, h1, h2⟩ := Reps.get' q2 (y vs (ex_t (s.sub.trans hid_ex) q1))
      exact ⟨k, Stp.refl _ _ _, d, by rw [rev_at hi, hl]; exact h1, h2.mono s.sub⟩
    · show vs.length ≤ ds.reverse.length
      rw [List.length_reverse, hl]; exact Nat.le_refl _
/-- whole numbers from lo, n of them, c apart -/
def rgD (lo c : Int) (n : Nat) : List Dt := (List.range n).map fun i : Nat => Dt.i (lo + (i : Int) * c)
theorem rgD_len {lo c : Int} {n : Nat} : (rgD lo c n).length = n := by unfold rgD; simp
theorem rgD_get {lo c : Int} {n i : Nat} (h : i < n) : (rgD lo c n)[i]? = some (.i (lo + (i : Int) * c)) := by
  unfold rgD
  rw [List.getElem?_map, List.getElem?_range h]; rfl
theorem yl_rng {lo : Int} {n : Nat} {M : List Addr} {H : Hp} : Yl K (Itr lo n) (rgD lo 1 n) S M H :=
  ⟨fun _ _ _ _ _ i hi => by rw [rgD_len] at hi; exact hi, fun S2 M2 H2 s k i x H3 hi y => by
    rw [rgD_len] at hi
    obtain ⟨rfl, rfl⟩ := y
    exact ⟨k, Stp.refl _ _ _, _, rgD_get hi, by rw [Int.mul_one]; exact rep_i⟩, fun _ _ _ _ _ => by rw [rgD_len]; exact Nat.le_refl _⟩
theorem ei_rng1 (h : EvA K tr sl S fun ds S1 => ∃ n : Nat, ds = [.i (n : Int)] ∧ n ≤ 100000 ∧ P (rgD 0 1 n) S1) : EvI K (iRng1 tr) sl S P := fun M σ H hd R o => by
  refine h M σ H hd _ fun ds S1 M1 vs H1 p1 k1 s1 r1 => ?_
  obtain ⟨n, rfl, hn, p⟩ := p1
  obtain ⟨v, rfl, q⟩ := r1.one
  have hv := q.int_inv
  subst hv
  exact ⟨(n : Int), rfl, by omega, by omega, o _ _ S1 M1 H1 p k1 s1 (by rw [Int.toNat_natCast]; exact yl_rng)⟩
theorem ei_rng2 (h : EvA K tr sl S fun ds S1 => ∃ a b : Int, ds = [.i a, .i b] ∧ (-100000 ≤ a ∧ a ≤ 100000 ∧ -100000 ≤ b ∧ b ≤ 100000) ∧ P (rgD a 1 (b - a).toNat) S1) : EvI K (iRng2 tr) sl S P := fun M σ H hd R o => by
  refine h M σ H hd _ fun ds S1 M1 vs H1 p1 k1 s1 r1 => ?_
  obtain ⟨a, b, rfl, ⟨h1, h2, h3, h4⟩, p⟩ := p1
  obtain ⟨v, w, rfl, q, q'⟩ := r1.two
  have hv := q.int_inv
  have hw := q'.int_inv
  subst hv hw
  exact ⟨a, b, rfl, ⟨by omega, by omega, by omega, by omega⟩, o _ _ S1 M1 H1 p k1 s1 yl_rng⟩
/-- a range down by ones: from a to above b -/
theorem rgc_down {a b : Int} (h1 : -100000 ≤ a) (h2 : a ≤ 100000) (h3 : -100000 ≤ b) (h4 : b ≤ 100000) : RgC a b (-1) (a - b).toNat := RgC.neg (by omega) (by omega) (by omega) (by omega)
theorem ei_rngD (h : EvA K tr sl S fun ds S1 => ∃ a b : Int, ds = [.i a, .i b, .i (-1)] ∧ (-100000 ≤ a ∧ a ≤ 100000 ∧ -100000 ≤ b ∧ b ≤ 100000) ∧ P (rgD a (-1) (a - b).toNat) S1) : EvI K (iRng3 tr) sl S P := fun M σ H hd R o => by
  refine h M σ H hd _ fun ds S1 M1 vs H1 p1 k1 s1 r1 => ?_
  obtain ⟨a, b, rfl, ⟨h1, h2, h3, h4⟩, p⟩ := p1
  obtain ⟨v, vr, rfl, q, q'⟩ := r1.cons_inv
  obtain ⟨w, u, rfl, q2, q3⟩ := q'.two
  have hv := q.int_inv
  have hw := q2.int_inv
  have hu := q3.int_inv
  subst hv hw hu
  refine ⟨a, b, -1, (a - b).toNat, rfl, rgc_down h1 h2 h3 h4, o _ _ S1 M1 H1 p k1 s1 ⟨fun _ _ _ _ _ i hi => by rw [rgD_len] at hi; exact hi, fun S2 M2 H2 s k i x H3 hi y => ?_, fun _ _ _ _ _ => by rw [rgD_len]; exact Nat.le_refl _⟩⟩
  rw [rgD_len] at hi
  obtain ⟨rfl, rfl⟩ := y
  exact ⟨k, Stp.refl _ _ _, _, rgD_get hi, rep_i⟩
/-- pairs of what comes with its number -/
def enD : Nat → List Dt → List Dt
  | _, [] => []
  | k, d :: ds => .t [.i (k : Int), d] :: enD (k + 1) ds
theorem enD_len : ∀ {ds : List Dt} {k : Nat}, (enD k ds).length = ds.length
  | [], _ => rfl
  | d :: ds, k => by unfold enD; rw [List.length_cons, List.length_cons, enD_len]
theorem enD_get : ∀ {ds : List Dt} {k i : Nat} {d : Dt}, ds[i]? = some d → (enD k ds)[i]? = some (.t [.i ((k + i : Nat) : Int), d])
  | [], _, _, _, h => by simp at h
  | d :: ds, k, 0, e, h => by simp at h; subst h; rfl
  | d :: ds, k, i + 1, e, h => by
    simp at h
    have q := enD_get (k := k + 1) h
    rw [show k + 1 + i = k + (i + 1) by omega] at q
    unfold enD
    exact q
theorem rep_pair {M : List Addr} {H : Hp} {T : Addr} {x y : Dt} {v w : V} (k : Stk K M S H) (e : H T = none) (h1 : Rep K (hid M H) x v) (h2 : Rep K (hid M H) y w) : Rep K (hid M (upd H T (.tup [v, w]))) (.t [x, y]) (.ref T) :=
  rep_t (.inl (.inl (hid_new k e))) (Reps.cons (h1.mono (ex_new e)) (Reps.cons (h2.mono (ex_new e)) Reps.nil))
theorem ei_enumL (h : EvA K tr sl S fun xs S1 => ∃ ds, xs = [.l ds] ∧ P (enD 0 ds) S1) : EvI K (iEnum K tr) sl S P := fun M σ H hd R o => by
  refine h M σ H hd _ fun xs S1 M1 us H1 p1 k1 s1 r1 => ?_
  obtain ⟨ds, rfl, p⟩ := p1
  obtain ⟨v, rfl, r⟩ := r1.one
  obtain ⟨a, vs, rfl, q1, q2⟩ := r.l_inv
  have hl := q2.len
  refine ⟨a, vs, rfl, ex_l hid_ex q1, o _ (enD 0 ds) S1 M1 H1 p k1 s1 ⟨fun S2 M2 H2 s k i hi => ?_, fun S2 M2 H2 s k i x H3 hi y => ?_, fun S2 M2 H2 s k => ?_⟩⟩
  · rw [enD_len] at hi
    exact ⟨vs, vs[i]'(by omega), ex_l (s.sub.trans hid_ex) q1, by simp [show i < vs.length by omega]⟩
  · obtain ⟨T, u, rfl, y1, rfl, y2⟩ := y
    obtain ⟨d, h1, h2⟩ := Reps.get' q2 (y2 vs (ex_l (s.sub.trans hid_ex) q1))
    refine ⟨k.ext (Ex.new y1), Stp.ext (Ex.new y1) k.dom, _, enD_get h1, ?_⟩
    rw [Nat.zero_add]
    exact rep_pair k y1 rep_i (h2.mono s.sub)
  · exact ⟨vs, ex_l (s.sub.trans hid_ex) q1, by rw [enD_len, hl]; exact Nat.le_refl _⟩
/-- pairs of two -/
def zpD : List Dt → List Dt → List Dt
  | d :: ds, e :: es => .t [d, e] :: zpD ds es
  | _, _ => []
theorem zpD_len : ∀ {ds es : List Dt}, (zpD ds es).length = min ds.length es.length
  | [], _ => by unfold zpD; simp
  | _ :: _, [] => by unfold zpD; simp
  | d :: ds, e :: es => by
    unfold zpD
    rw [List.length_cons, zpD_len, List.length_cons, List.length_cons]
    omega
theorem zpD_get : ∀ {ds es : List Dt} {i : Nat} {d e : Dt}, ds[i]? = some d → es[i]? = some e → (zpD ds es)[i]? = some (.t [d, e])
  | [], _, _, _, _, h, _ => by simp at h
  | _ :: _, [], _, _, _, _, h => by simp at h
  | d :: ds, e :: es, 0, _, _, h, h' => by simp at h h'; subst h h'; rfl
  | d :: ds, e :: es, i + 1, _, _, h, h' => by
    simp at h h'
    unfold zpD
    exact zpD_get h h'
/-- zip of two lists -/
theorem ei_zipL (h : EvA K tr sl S fun xs S1 => ∃ ds es, xs = [.l ds, .l es] ∧ P (zpD ds es) S1) : EvI K (iZipA K tr) sl S P := fun M σ H hd R o => by
  refine h M σ H hd _ fun xs S1 M1 us H1 p1 k1 s1 r1 => ?_
  obtain ⟨ds, es, rfl, p⟩ := p1
  obtain ⟨v, w, rfl, r, r'⟩ := r1.two
  obtain ⟨a, vs, rfl, q1, q2⟩ := r.l_inv
  obtain ⟨b, ws, rfl, q3, q4⟩ := r'.l_inv
  have hl := q2.len
  have hl' := q4.len
  refine ⟨a, b, vs, ws, rfl, .inl ⟨ex_l hid_ex q1, ex_l hid_ex q3, o _ (zpD ds es) S1 M1 H1 p k1 s1 ⟨fun S2 M2 H2 s k i hi => ?_, fun S2 M2 H2 s k i x H3 hi y => ?_, fun S2 M2 H2 s k => ?_⟩⟩⟩
  · rw [zpD_len] at hi
    exact ⟨vs, ws, vs[i]'(by omega), ws[i]'(by omega), ex_l (s.sub.trans hid_ex) q1, ex_l (s.sub.trans hid_ex) q3, by simp [show i < vs.length by omega], by simp [show i < ws.length by omega]⟩
  · obtain ⟨T, u, u', rfl, y1, rfl, y2, y3⟩ := y
    obtain ⟨d, h1, h2⟩ := Reps.get' q2 (y2 vs (ex_l (s.sub.trans hid_ex) q1))
    obtain ⟨e, h3, h4⟩ := Reps.get' q4 (y3 ws (ex_l (s.sub.trans hid_ex) q3))
    exact ⟨k.ext (Ex.new y1), Stp.ext (Ex.new y1) k.dom, _, zpD_get h1 h3, rep_pair k y1 (h2.mono s.sub) (h4.mono s.sub)⟩
  · exact ⟨vs, ws, ex_l (s.sub.trans hid_ex) q1, ex_l (s.sub.trans hid_ex) q3, by rw [zpD_len]; omega⟩
end

/-! ### for -/
theorem drop_cons {α : Type} {xs : List α} {i : Nat} {x : α} (h : xs[i]? = some x) : xs.drop i = x :: xs.drop (i + 1) := by
  obtain ⟨h1, h2⟩ := List.getElem?_eq_some_iff.mp h
  rw [List.drop_eq_getElem_cons h1, h2]
section
variable {K : PySem.W.Frag} {S : Sto} {sl : Sl} {N : NX} {R P : PD} {te : TE} {tt : TT} {tu : TS} {wi : TI} {g : TG} {js : List Nat} {un : Dt → List Dt → Prop}
/-- I by what is left to come -/
theorem wp_for (tg : Tg K g js un) (h : EvI K wi sl S fun ds S1 => ∃ I : List Dt → NX, I ds sl S1 ∧ (∀ d r sl2 S2, I (d :: r) sl2 S2 → ∃ es, un d es ∧ WP K tu (setA sl2 js es) S2 (I r) R) ∧ (∀ sl2 S2, I [] sl2 S2 → N sl2 S2)) :
    WP K (tFor wi g tu) sl S N R := fun M σ H D hd n o => by
  refine h M σ H hd _ fun J ds S1 M1 H1 p1 k1 s1 y => ?_
  obtain ⟨I, i0, is, id⟩ := p1
  have hd1 := hd.step k1 s1
  refine ⟨fun i m σ' H' => m = ds.length - i ∧ i ≤ ds.length ∧ ∃ sl' S' M', I (ds.drop i) sl' S' ∧ Holds K M' S' sl' σ' H' ∧ Stp S1 M1 H1 S' M' H', ⟨ds.length, by simp, Nat.zero_le _, sl, S1, M1, i0, hd1, Stp.refl _ _ _⟩, ?_⟩
  rintro i m σ' H' ⟨rfl, hi, sl', S', M', i1, hd2, s2⟩
  by_cases hlt : i < ds.length
  · refine .inr ⟨y.go S' M' H' s2 hd2.stk i hlt, fun σ3 H3 => i + 1 ≤ ds.length ∧ ∃ sl3 S3 M3, I (ds.drop (i + 1)) sl3 S3 ∧ Holds K M3 S3 sl3 σ3 H3 ∧ Stp S1 M1 H1 S3 M3 H3, fun σ3 H3 z => ⟨ds.length - (i + 1), by omega, rfl, z.1, z.2⟩, fun x H3 yy => ?_⟩
    obtain ⟨k3, s3, d, hdd, rd⟩ := y.yl S' M' H' s2 hd2.stk i x H3 hlt yy
    rw [drop_cons hdd] at i1
    obtain ⟨es, hu, w⟩ := is d _ sl' S' i1
    obtain ⟨vs, q1, q2⟩ := tg.run M' H3 σ' d x es hu rd
    refine q2 _ ?_
    have hd3 := (hd2.step k3 s3).setA (js := js) q1
    exact w M' _ H3 _ hd3 (fun sl4 S4 M4 σ4 H4 p4 hd4 s4 => ⟨hlt, sl4, S4, M4, p4, hd4, (s2.trans s3).trans s4⟩) (((o.after s1).after s2).after s3)
  · have e : i = ds.length := by omega
    subst e
    rw [List.drop_length] at i1
    exact .inl ⟨y.st S' M' H' s2 hd2.stk, n sl' S' M' σ' H' (id sl' S' i1) hd2 (s1.trans s2)⟩

/-! ### comprehensions -/
def wipeE (sl : Sl) : List Nat → Sl
  | [] => sl
  | v :: vs => (wipeE sl vs).set v none
theorem Holds.wipe {M : List Addr} {σ : L2.St} {H : Hp} (h : Holds K M S sl σ H) : ∀ vs : List Nat, Holds K M S (wipeE sl vs) (L2.wipe σ vs) H
  | [] => h
  | v :: vs => by
    have q := Holds.wipe h vs
    refine ⟨h.stk, by unfold wipeE L2.wipe; rw [List.length_set, List.length_set]; exact q.len, fun i d e => ?_⟩
    unfold wipeE at e
    unfold L2.wipe
    by_cases vi : v = i
    · subst vi
      have hl : v < (wipeE sl vs).length := by
        have := (List.getElem?_eq_some_iff.mp e).1
        rw [List.length_set] at this
        exact this
      rw [List.getElem?_set_self hl] at e
      cases e
    · rw [List.getElem?_set_ne vi] at e ⊢
      exact q.val i d e
theorem wipe_at {σ : L2.St} : ∀ {vs : List Nat} {i : Nat}, (L2.wipe σ vs)[i]? = if i ∈ vs then (if i < σ.length then some none else none) else σ[i]?
  | [], i => by simp [L2.wipe]
  | v :: vs, i => by
    unfold L2.wipe
    by_cases vi : v = i
    · subst vi
      by_cases hl : v < σ.length
      · rw [List.getElem?_set_self (by rw [wipe_length]; exact hl), if_pos List.mem_cons_self, if_pos hl]
      · rw [List.getElem?_eq_none (by rw [List.length_set, wipe_length]; omega), if_pos List.mem_cons_self, if_neg hl]
    · rw [List.getElem?_set_ne vi, wipe_at]
      by_cases hm : i ∈ vs
      · rw [if_pos hm, if_pos (List.mem_cons_of_mem _ hm)]
      · rw [if_neg hm, if_neg (by simp [hm]; exact fun z => vi z.symm)]
theorem wipe_set {σ : L2.St} {vs : List Nat} {j : Nat} {x : Option V} (h : j ∈ vs) : L2.wipe (σ.set j x) vs = L2.wipe σ vs := by
  apply List.ext_getElem?
  intro i
  rw [wipe_at, wipe_at, List.length_set]
  by_cases hi : i ∈ vs
  · rw [if_pos hi, if_pos hi]
  · rw [if_neg hi, if_neg hi, List.getElem?_set_ne]
    rintro rfl
    exact hi h
theorem wipe_wipe {σ : L2.St} {vs : List Nat} : L2.wipe (L2.wipe σ vs) vs = L2.wipe σ vs := by
  apply List.ext_getElem?
  intro i
  rw [wipe_at, wipe_length, wipe_at]
  split <;> rfl
theorem wipe_setV {vs : List Nat} : ∀ {js : List Nat} {xs : List V} {σ : L2.St}, (∀ j ∈ js, j ∈ vs) → L2.wipe (setV σ js xs) vs = L2.wipe σ vs
  | [], xs, σ, _ => by cases xs <;> rfl
  | j :: js, [], σ, _ => rfl
  | j :: js, x :: xs, σ, h => by
    unfold setV
    rw [wipe_setV (fun i hi => h i (List.mem_cons_of_mem _ hi)), wipe_set (h j List.mem_cons_self)]
/-- [te for g in wi if tt], I by what is left to come, what is made, the store; the new list is handed on as it is made -/
theorem lc_gen {vs : List Nat} (tg : Tg K g js un) (hv : ∀ j ∈ js, j ∈ vs) (h : EvI K wi sl S fun ds S1 => ∃ I : List Dt → List Dt → Sto → Prop, I ds [] S1 ∧ (∀ d r acc S2, I (d :: r) acc S2 → acc.length ≤ 100000 ∧ ∃ es, un d es ∧
      EvT K tt (setA (wipeE sl vs) js es) S2 fun b S3 => (b = true → Ev K te (setA (wipeE sl vs) js es) S3 fun y S4 => I r (acc ++ [y]) S4) ∧ (b = false → I r acc S3)) ∧
      (∀ acc S2, I [] acc S2 → (P (.l acc) S2 ∨ ∀ p, S2 p = none → P (.a p) (S2.put p (.l acc))))) : Ev K (tLc wi g tt te vs) sl S P := fun M σ H hd Q o => by
  refine h M σ H hd _ fun J ds S1 M1 H1 p1 k1 s1 y => ?_
  obtain ⟨I, i0, is, id⟩ := p1
  have hd1 := hd.step k1 s1
  intro D hD
  obtain ⟨kD, sD⟩ := k1.new (c := .l []) (o := .lst []) hD ⟨[], upd_same, Reps.nil⟩
  have nD := k1.fresh hD
  -- D stands hidden, no thing of the store
  have kD1 : Stk K (D :: M1) S1 (upd H1 D (.lst [])) := ⟨kD.dom, fun p c hp => by
    have ne : p ≠ D := fun z => by subst z; rw [nD.2] at hp; cases hp
    exact kD.sto p c (by rw [put_ne ne]; exact hp)⟩
  have sD1 : Stp S1 M1 H1 S1 (D :: M1) (upd H1 D (.lst [])) := ⟨fun x u hx hu => ⟨(sD.same x u hx hu).1, hx⟩, sD.sub, sD.keep⟩
  refine ⟨fun i m H' => m = ds.length - i ∧ i ≤ ds.length ∧ ∃ acc accV S' M', I (ds.drop i) acc S' ∧ Holds K M' S' sl σ H' ∧ Stp S1 M1 H1 S' M' H' ∧ D ∈ M' ∧ S' D = none ∧ H' D = some (.lst accV) ∧ Reps K (hid M' H') acc accV,
    ⟨ds.length, by simp, Nat.zero_le _, [], [], S1, D :: M1, i0, hd1.step kD1 sD1, sD1, List.mem_cons_self, nD.2, upd_same, Reps.nil⟩, ?_⟩
  rintro i m H' ⟨rfl, hi, acc, accV, S', M', i1, hd2, s2, d1, d2, d3, d4⟩
  by_cases hlt : i < ds.length
  · refine .inr ⟨y.go S' M' H' s2 hd2.stk i hlt, fun H3 => i + 1 ≤ ds.length ∧ ∃ acc accV S3 M3, I (ds.drop (i + 1)) acc S3 ∧ Holds K M3 S3 sl σ H3 ∧ Stp S1 M1 H1 S3 M3 H3 ∧ D ∈ M3 ∧ S3 D = none ∧ H3 D = some (.lst accV) ∧ Reps K (hid M3 H3) acc accV, fun H3 z => ⟨ds.length - (i + 1), by omega, rfl, z.1, z.2⟩, fun x H3 yy => ?_⟩
    obtain ⟨k3, s3, d, hdd, rd⟩ := y.yl S' M' H' s2 hd2.stk i x H3 hlt yy
    rw [drop_cons hdd] at i1
    obtain ⟨hz, es, hu, w⟩ := is d _ acc S' i1
    obtain ⟨xs, q1, q2⟩ := tg.run M' H3 (L2.wipe σ vs) d x es hu rd
    refine q2 _ ⟨by rw [wipe_setV hv, wipe_wipe], ?_⟩
    have hd3 := hd2.step k3 s3
    have hd3' := (hd3.wipe vs).setA (js := js) q1
    refine w M' _ H3 hd3' _ fun b S4 M4 H4 p4 k4 s4 => ?_
    have dd4 := s4.same D _ d2 (s3.same D _ d2 d3).1
    have dm4 : D ∈ M4 := s4.keep D _ d1 (s3.same D _ d2 d3).1 d2
    cases b with
    | false =>
      rw [if_neg Bool.false_ne_true]
      exact ⟨hlt, acc, accV, S4, M4, p4.2 rfl, hd3.step k4 s4, (s2.trans s3).trans s4, dm4, dd4.2, dd4.1, (d4.mono s3.sub).mono s4.sub⟩
    | true =>
      rw [if_pos rfl]
      refine p4.1 rfl M4 _ H4 (hd3'.step k4 s4) _ fun z S5 M5 u H5 p5 k5 s5 r5 => ?_
      have dd5 := s5.same D _ dd4.2 dd4.1
      have dm5 : D ∈ M5 := s5.keep D _ dm4 dd4.1 dd4.2
      have hid5 : hid M5 (upd H5 D (.lst (accV ++ [u]))) = hid M5 H5 := hid_upd dm5
      have d4' := ((d4.mono s3.sub).mono s4.sub).mono s5.sub
      refine ⟨accV, dd5.1, ?_, hlt, acc ++ [z], accV ++ [u], S5, M5, p5, ?_, ?_, dm5, dd5.2, upd_same, ?_⟩
      · rw [← d4.len]; exact Nat.lt_of_le_of_lt hz (by decide)
      · have hd5 := (hd3.step k4 s4).step k5 s5
        refine ⟨⟨fun a ha zz => ?_, fun p c hp => ?_⟩, hd5.len, fun j e q => ?_⟩
        · by_cases ea : a = D
          · subst ea; rw [upd_same] at zz; cases zz
          · rw [upd_ne ea] at zz; exact k5.dom a ha zz
        · have ne : p ≠ D := fun zz => by subst zz; rw [dd5.2] at hp; cases hp
          obtain ⟨e1, e2⟩ := k5.sto p c hp
          exact ⟨e1, e2.mono (upd_ne ne) (by rw [hid5]; exact Ex.refl _)⟩
        · rw [hid5]; exact hd5.val j e q
      · have t := ((s2.trans s3).trans s4).trans s5
        exact ⟨fun a u' ha hu' => ⟨by rw [upd_ne (ne_of_none hu' hD)]; exact (t.same a u' ha hu').1, (t.same a u' ha hu').2⟩, by rw [hid5]; exact t.sub, t.keep⟩
      · rw [hid5]; exact Reps.append d4' (Reps.cons r5 Reps.nil)
  · have e : i = ds.length := by omega
    subst e
    rw [List.drop_length] at i1
    refine .inl ⟨y.st S' M' H' s2 hd2.stk, ?_⟩
    rcases id acc S' i1 with hP | hP
    · -- frozen
      obtain ⟨k9, x9⟩ := hd2.stk.freeze (p := D)
      have eD : S'.del D = S' := by
        funext q
        by_cases e : q = D
        · subst e; rw [del_same, d2]
        · rw [del_ne e]
      rw [eD] at k9
      refine o (.l acc) S' (drp M' D) (.ref D) H' hP k9 ?_ (rep_l (.inl (.inl (by rw [hid_of (fun z => (mem_drp.mp z).2 rfl)]; exact d3))) (d4.mono x9))
      refine s1.trans ⟨fun x u hx hu => s2.same x u hx hu, s2.sub.trans x9, fun x u hx hu hs => mem_drp.mpr ⟨s2.keep x u hx hu hs, fun z => by subst z; rw [hD] at hu; cases hu⟩⟩
    · refine o (.a D) (S'.put D (.l acc)) M' (.ref D) H' (hP D d2) ⟨hd2.stk.dom, fun p c hp => ?_⟩ (s1.trans ⟨fun x u hx hu => ?_, s2.sub, s2.keep⟩) rep_a
      · by_cases ep : p = D
        · subst ep
          rw [put_same] at hp; cases hp
          exact ⟨d1, accV, d3, d4⟩
        · rw [put_ne ep] at hp
          exact hd2.stk.sto p c hp
      · have ne : x ≠ D := ne_of_none hu hD
        rw [put_ne ne]
        exact s2.same x u hx hu
end
end Nf

set_option Elab.async false
set_option linter.all false
set_option maxRecDepth 100000
set_option maxHeartbeats 2000000
namespace Nf
open PySem PySem.Spec PyProof.Rows L2 RT RZ

/-! ### plain data, and == of them -/
mutual
def toPy : Dt → PyData
  | .n => .none
  | .b c => .bool c
  | .i k => .int k
  | .s x => .str x
  | .a _ => .none
  | .t ds => .tuple (toPys ds)
  | .l ds => .list (toPys ds)
def toPys : List Dt → List PyData
  | [] => []
  | d :: ds => toPy d :: toPys ds
end
mutual
/-- ints, and lists and tuples of such, so deep -/
def Pl : Nat → Dt → Prop
  | _, .i _ => True
  | 0, _ => False
  | n + 1, .t ds => Pls n ds
  | n + 1, .l ds => Pls n ds
  | _ + 1, _ => False
def Pls : Nat → List Dt → Prop
  | _, [] => True
  | n, d :: ds => Pl n d ∧ Pls n ds
end
theorem pls_of : ∀ {n : Nat} {ds : List Dt}, (∀ d ∈ ds, Pl n d) → Pls n ds
  | _, [], _ => by unfold Pls; trivial
  | n, d :: ds, h => by unfold Pls; exact ⟨h d List.mem_cons_self, pls_of fun e he => h e (List.mem_cons_of_mem _ he)⟩
mutual
theorem Pl.mono : ∀ {n m : Nat} {d : Dt}, Pl n d → n ≤ m → Pl m d
  | n, m, .i k, _, _ => by unfold Pl; trivial
  | 0, _, .n, h, _ => by unfold Pl at h; exact h.elim
  | 0, _, .b _, h, _ => by unfold Pl at h; exact h.elim
  | 0, _, .s _, h, _ => by unfold Pl at h; exact h.elim
  | 0, _, .a _, h, _ => by unfold Pl at h; exact h.elim
  | 0, _, .t _, h, _ => by unfold Pl at h; exact h.elim
  | 0, _, .l _, h, _ => by unfold Pl at h; exact h.elim
  | n + 1, 0, _, _, e => by omega
  | n + 1, m + 1, .t ds, h, e => by unfold Pl at h ⊢; exact Pls.mono h (by omega)
  | n + 1, m + 1, .l ds, h, e => by unfold Pl at h ⊢; exact Pls.mono h (by omega)
  | n + 1, _, .n, h, _ => by unfold Pl at h; exact h.elim
  | n + 1, _, .b _, h, _ => by unfold Pl at h; exact h.elim
  | n + 1, _, .s _, h, _ => by unfold Pl at h; exact h.elim
  | n + 1, _, .a _, h, _ => by unfold Pl at h; exact h.elim
theorem Pls.mono : ∀ {n m : Nat} {ds : List Dt}, Pls n ds → n ≤ m → Pls m ds
  | _, _, [], _, _ => by unfold Pls; trivial
  | n, m, d :: ds, h, e => by unfold Pls at h ⊢; exact ⟨Pl.mono h.1 e, Pls.mono h.2 e⟩
end
mutual
theorem pl_py : ∀ {n : Nat} {d : Dt}, Pl n d → (toPy d).canLay0 = true ∧ (toPy d).depth ≤ n
  | n, .i k, _ => by
    unfold toPy
    constructor
    · simp only [PyData.canLay0]
    · simp only [PyData.depth]; omega
  | 0, .n, h => by unfold Pl at h; exact h.elim
  | 0, .b _, h => by unfold Pl at h; exact h.elim
  | 0, .s _, h => by unfold Pl at h; exact h.elim
  | 0, .a _, h => by unfold Pl at h; exact h.elim
  | 0, .t _, h => by unfold Pl at h; exact h.elim
  | 0, .l _, h => by unfold Pl at h; exact h.elim
  | n + 1, .t ds, h => by
    unfold Pl at h
    have q := pls_py h
    unfold toPy
    constructor
    · simp only [PyData.canLay0]; exact q.1
    · simp only [PyData.depth]; omega
  | n + 1, .l ds, h => by
    unfold Pl at h
    have q := pls_py h
    unfold toPy
    constructor
    · simp only [PyData.canLay0]; exact q.1
    · simp only [PyData.depth]; omega
  | n + 1, .n, h => by unfold Pl at h; exact h.elim
  | n + 1, .b _, h => by unfold Pl at h; exact h.elim
  | n + 1, .s _, h => by unfold Pl at h; exact h.elim
  | n + 1, .a _, h => by unfold Pl at h; exact h.elim
theorem pls_py : ∀ {n : Nat} {ds : List Dt}, Pls n ds → PyData.canLayAll0 (toPys ds) = true ∧ PyData.depthAll (toPys ds) ≤ n
  | n, [], _ => by
    unfold toPys
    constructor
    · simp only [PyData.canLayAll0]
    · simp only [PyData.depthAll]; omega
  | n, d :: ds, h => by
    unfold Pls at h
    have q1 := pl_py h.1
    have q2 := pls_py h.2
    unfold toPys
    constructor
    · simp only [PyData.canLayAll0, q1.1, q2.1, Bool.and_self]
    · simp only [PyData.depthAll]; omega
end
theorem pl_shaped {n : Nat} {d : Dt} (h : Pl n d) (hn : n ≤ 64) : SeqAt.shaped (toPy d) = true := by
  obtain ⟨h1, h2⟩ := pl_py h
  unfold SeqAt.shaped
  rw [h1, Bool.true_and]
  exact decide_eq_true (by omega)
mutual
theorem pl_eqv : ∀ {n m : Nat} {d e : Dt}, Pl n d → Pl m e → (PyData.eqv (toPy d) (toPy e) = true ↔ d = e)
  | n, m, .i j, .i k, _, _ => by
    unfold toPy
    simp only [PyData.eqv]
    simp
  | n, m, .i j, .t ds, _, h => by unfold toPy; simp only [PyData.eqv]; simp
  | n, m, .i j, .l ds, _, h => by unfold toPy; simp only [PyData.eqv]; simp
  | n, m, .t ds, .i j, h, _ => by unfold toPy; simp only [PyData.eqv]; simp
  | n, m, .l ds, .i j, h, _ => by unfold toPy; simp only [PyData.eqv]; simp
  | n + 1, m + 1, .t ds, .t es, h, h' => by
    unfold Pl at h h'
    unfold toPy
    simp only [PyData.eqv]
    rw [pls_eqv h h']
    simp
  | n + 1, m + 1, .l ds, .l es, h, h' => by
    unfold Pl at h h'
    unfold toPy
    simp only [PyData.eqv]
    rw [pls_eqv h h']
    simp
  | n, m, .t ds, .l es, h, h' => by unfold toPy; simp only [PyData.eqv]; simp
  | n, m, .l ds, .t es, h, h' => by unfold toPy; simp only [PyData.eqv]; simp
  | 0, _, .t _, _, h, _ => by unfold Pl at h; exact h.elim
  | 0, _, .l _, _, h, _ => by unfold Pl at h; exact h.elim
  | _, 0, _, .t _, _, h => by unfold Pl at h; exact h.elim
  | _, 0, _, .l _, _, h => by unfold Pl at h; exact h.elim
  | n, _, .n, _, h, _ => by cases n <;> (unfold Pl at h; exact h.elim)
  | n, _, .b _, _, h, _ => by cases n <;> (unfold Pl at h; exact h.elim)
  | n, _, .s _, _, h, _ => by cases n <;> (unfold Pl at h; exact h.elim)
  | n, _, .a _, _, h, _ => by cases n <;> (unfold Pl at h; exact h.elim)
  | _, n, _, .n, _, h => by cases n <;> (unfold Pl at h; exact h.elim)
  | _, n, _, .b _, _, h => by cases n <;> (unfold Pl at h; exact h.elim)
  | _, n, _, .s _, _, h => by cases n <;> (unfold Pl at h; exact h.elim)
  | _, n, _, .a _, _, h => by cases n <;> (unfold Pl at h; exact h.elim)
theorem pls_eqv : ∀ {n m : Nat} {ds es : List Dt}, Pls n ds → Pls m es → (PyData.eqvAll (toPys ds) (toPys es) = true ↔ ds = es)
  | _, _, [], [], _, _ => by unfold toPys; simp only [PyData.eqvAll]
  | _, _, [], e :: es, _, _ => by simp only [toPys, PyData.eqvAll]; simp
  | _, _, d :: ds, [], _, _ => by simp only [toPys, PyData.eqvAll]; simp
  | n, m, d :: ds, e :: es, h, h' => by
    unfold Pls at h h'
    simp only [toPys, PyData.eqvAll, Bool.and_eq_true]
    rw [pl_eqv h.1 h'.1, pls_eqv h.2 h'.2]
    simp
end

/-! ### views: what a list is, frozen or of the store; what a tuple or a list is -/
def LV (S : Sto) (d : Dt) (ds : List Dt) : Prop := d = .l ds ∨ ∃ p, d = .a p ∧ S p = some (.l ds)
theorem lv_l {S : Sto} {ds : List Dt} : LV S (.l ds) ds := .inl rfl
theorem lv_a {S : Sto} {p : Addr} {ds : List Dt} (h : S p = some (.l ds)) : LV S (.a p) ds := .inr ⟨p, rfl, h⟩
section
variable {K : PySem.W.Frag} {S : Sto} {M : List Addr} {H : Hp} {d : Dt} {ds : List Dt} {v : V}
theorem lv_run (k : Stk K M S H) (r : Rep K (hid M H) d v) (h : LV S d ds) : ∃ a vs, v = .ref a ∧ SqL K H a vs ∧ Reps K (hid M H) ds vs := by
  rcases h with rfl | ⟨p, rfl, h⟩
  · obtain ⟨a, vs, h1, h2, h3⟩ := r.l_inv
    exact ⟨a, vs, h1, ex_l hid_ex h2, h3⟩
  · obtain ⟨_, vs, h1, h2⟩ := k.sto p _ h
    exact ⟨p, vs, r.a_inv, .inl (.inl h1), h2⟩
def SV (S : Sto) (d : Dt) (ds : List Dt) : Prop := d = .t ds ∨ LV S d ds
theorem sv_t {S : Sto} {ds : List Dt} : SV S (.t ds) ds := .inl rfl
theorem sv_l {S : Sto} {ds : List Dt} : SV S (.l ds) ds := .inr (.inl rfl)
theorem sv_a {S : Sto} {p : Addr} {ds : List Dt} (h : S p = some (.l ds)) : SV S (.a p) ds := .inr (.inr ⟨p, rfl, h⟩)
theorem sv_run (k : Stk K M S H) (r : Rep K (hid M H) d v) (h : SV S d ds) : ∃ a vs, v = .ref a ∧ (SqL K H a vs ∨ SqT K H a vs) ∧ Reps K (hid M H) ds vs := by
  rcases h with rfl | h
  · obtain ⟨a, vs, h1, h2, h3⟩ := r.t_inv
    exact ⟨a, vs, h1, .inr (ex_t hid_ex h2), h3⟩
  · obtain ⟨a, vs, h1, h2, h3⟩ := lv_run k r h
    exact ⟨a, vs, h1, .inl h2, h3⟩
end
mutual
theorem rep_dp {K : PySem.W.Frag} {S : Sto} {M : List Addr} {H : Hp} (k : Stk K M S H) : ∀ {n : Nat} {d : Dt} {v : V}, Pl n d → Rep K (hid M H) d v → Dp K H v (toPy d)
  | n, .i j, v, _, r => by rw [r.int_inv]; unfold toPy; exact Dp.int j
  | n + 1, .t ds, v, h, r => by
    unfold Pl at h
    obtain ⟨a, vs, rfl, h2, h3⟩ := r.t_inv
    unfold toPy
    exact Dp.tup (ex_t hid_ex h2) (reps_dp k h h3)
  | n + 1, .l ds, v, h, r => by
    unfold Pl at h
    obtain ⟨a, vs, rfl, h2, h3⟩ := r.l_inv
    unfold toPy
    exact Dp.lst (ex_l hid_ex h2) (reps_dp k h h3)
  | 0, .t _, _, h, _ => by unfold Pl at h; exact h.elim
  | 0, .l _, _, h, _ => by unfold Pl at h; exact h.elim
  | n, .n, _, h, _ => by cases n <;> (unfold Pl at h; exact h.elim)
  | n, .b _, _, h, _ => by cases n <;> (unfold Pl at h; exact h.elim)
  | n, .s _, _, h, _ => by cases n <;> (unfold Pl at h; exact h.elim)
  | n, .a _, _, h, _ => by cases n <;> (unfold Pl at h; exact h.elim)
theorem reps_dp {K : PySem.W.Frag} {S : Sto} {M : List Addr} {H : Hp} (k : Stk K M S H) : ∀ {n : Nat} {ds : List Dt} {vs : List V}, Pls n ds → Reps K (hid M H) ds vs → DpAll K H vs (toPys ds)
  | _, [], _, _, r => by rw [r.nil_inv]; unfold toPys; exact DpAll.nil
  | n, d :: ds, _, h, r => by
    unfold Pls at h
    obtain ⟨v, vr, rfl, h1, h2⟩ := r.cons_inv
    unfold toPys
    exact DpAll.cons (rep_dp k h.1 h1) (reps_dp k h.2 h2)
end
/-- as a list view of the store, plain -/
theorem lv_dp {K : PySem.W.Frag} {S : Sto} {M : List Addr} {H : Hp} {d : Dt} {ds : List Dt} {v : V} {n : Nat} (k : Stk K M S H) (r : Rep K (hid M H) d v) (h : LV S d ds) (p : Pls n ds) : Dp K H v (toPy (.l ds)) := by
  obtain ⟨a, vs, rfl, h2, h3⟩ := lv_run k r h
  unfold toPy
  exact Dp.lst h2 (reps_dp k p h3)

/-! ### operations on values -/
section
variable {K : PySem.W.Frag} {S : Sto} {P : PD} {x y : Dt}
theorem Rv.orL {r r' : R2} (h : Rv K r x y S P) : Rv K (fun x y H Q => r x y H Q ∨ r' x y H Q) x y S P := fun M H v w k r1 r2 Q o => .inl (h M H v w k r1 r2 Q o)
theorem Rv.orR {r r' : R2} (h : Rv K r' x y S P) : Rv K (fun x y H Q => r x y H Q ∨ r' x y H Q) x y S P := fun M H v w k r1 r2 Q o => .inr (h M H v w k r1 r2 Q o)
theorem rv_int {f : Int → Int → Int} {a b : Int} (p : P (.i (f a b)) S) : Rv K (rI0 fun i j => .int (f i j)) (.i a) (.i b) S P := fun M H v w k r1 r2 Q o =>
  ⟨a, b, r1.int_inv, r2.int_inv, o.at p k rep_i⟩
theorem rv_intC {C : Int → Int → Prop} {f : Int → Int → Int} {a b : Int} (c : C a b) (p : P (.i (f a b)) S) : Rv K (rI C fun i j => .int (f i j)) (.i a) (.i b) S P := fun M H v w k r1 r2 Q o =>
  ⟨a, b, r1.int_inv, r2.int_inv, c, o.at p k rep_i⟩
theorem rv_cmp {f : Int → Int → Bool} {a b : Int} (p : P (.b (f a b)) S) : Rv K (rI0 fun i j => .bl (f i j)) (.i a) (.i b) S P := fun M H v w k r1 r2 Q o =>
  ⟨a, b, r1.int_inv, r2.int_inv, o.at p k rep_b⟩
theorem rv_eqI {a b : Int} (p : P (.b (decide (a = b))) S) : Rv K rEq (.i a) (.i b) S P := fun M H v w k r1 r2 Q o => by
  rw [r1.int_inv, r2.int_inv]
  refine ⟨rfl, ?_⟩
  have e : decide (V.int a = V.int b) = decide (a = b) := by
    rw [Bool.eq_iff_iff]; simp
  rw [e]
  exact o.at p k rep_b
theorem rv_neI {a b : Int} (p : P (.b (!decide (a = b))) S) : Rv K rNe (.i a) (.i b) S P := fun M H v w k r1 r2 Q o => by
  rw [r1.int_inv, r2.int_inv]
  refine ⟨rfl, ?_⟩
  have e : decide (V.int a = V.int b) = decide (a = b) := by
    rw [Bool.eq_iff_iff]; simp
  rw [e]
  exact o.at p k rep_b
theorem rv_eqS {a b : Str} (p : P (.b (decide (a = b))) S) : Rv K rEq (.s a) (.s b) S P := fun M H v w k r1 r2 Q o => by
  rw [r1.str_inv, r2.str_inv]
  refine ⟨rfl, ?_⟩
  have e : decide (V.str a = V.str b) = decide (a = b) := by
    rw [Bool.eq_iff_iff]; simp
  rw [e]
  exact o.at p k rep_b
theorem rv_neS {a b : Str} (p : P (.b (!decide (a = b))) S) : Rv K rNe (.s a) (.s b) S P := fun M H v w k r1 r2 Q o => by
  rw [r1.str_inv, r2.str_inv]
  refine ⟨rfl, ?_⟩
  have e : decide (V.str a = V.str b) = decide (a = b) := by
    rw [Bool.eq_iff_iff]; simp
  rw [e]
  exact o.at p k rep_b
/-- == of plain data -/
theorem rv_eqD {n m : Nat} (h1 : Pl n x) (h2 : Pl m y) (hn : n ≤ 64) (hm : m ≤ 64) (p : x = y → P (.b true) S) (q : x ≠ y → P (.b false) S) : Rv K (rEqD K) x y S P := fun M H v w k r1 r2 Q o => by
  refine ⟨toPy x, toPy y, rep_dp k h1 r1, rep_dp k h2 r2, pl_shaped h1 hn, pl_shaped h2 hm, ?_⟩
  by_cases e : x = y
  · rw [(pl_eqv h1 h2).mpr e]
    exact o.at (p e) k rep_b
  · rw [show PyData.eqv (toPy x) (toPy y) = false by rw [← Bool.not_eq_true]; exact fun z => e ((pl_eqv h1 h2).mp z)]
    exact o.at (q e) k rep_b
theorem rv_neD {n m : Nat} (h1 : Pl n x) (h2 : Pl m y) (hn : n ≤ 64) (hm : m ≤ 64) (p : x = y → P (.b false) S) (q : x ≠ y → P (.b true) S) : Rv K (rNeD K) x y S P := fun M H v w k r1 r2 Q o => by
  refine ⟨toPy x, toPy y, rep_dp k h1 r1, rep_dp k h2 r2, pl_shaped h1 hn, pl_shaped h2 hm, ?_⟩
  by_cases e : x = y
  · rw [(pl_eqv h1 h2).mpr e]
    exact o.at (p e) k rep_b
  · rw [show PyData.eqv (toPy x) (toPy y) = false by rw [← Bool.not_eq_true]; exact fun z => e ((pl_eqv h1 h2).mp z)]
    exact o.at (q e) k rep_b
/-- a list of the store is [], or isn't -/
theorem rv_neL {n : Nat} {ds es : List Dt} (h : LV S x ds) (h1 : Pls n ds) (h2 : Pls n es) (hn : n ≤ 63) (p : ds = es → P (.b false) S) (q : ds ≠ es → P (.b true) S) : Rv K (rNeD K) x (.l es) S P := fun M H v w k r1 r2 Q o => by
  have e1 : Pl (n + 1) (.l ds) := by unfold Pl; exact h1
  have e2 : Pl (n + 1) (.l es) := by unfold Pl; exact h2
  refine ⟨toPy (.l ds), toPy (.l es), lv_dp k r1 h h1, rep_dp k e2 r2, pl_shaped e1 (by omega), pl_shaped e2 (by omega), ?_⟩
  by_cases e : ds = es
  · rw [(pl_eqv e1 e2).mpr (by rw [e])]
    exact o.at (p e) k rep_b
  · rw [show PyData.eqv (toPy (.l ds)) (toPy (.l es)) = false by rw [← Bool.not_eq_true]; exact fun z => e (Dt.l.inj ((pl_eqv e1 e2).mp z))]
    exact o.at (q e) k rep_b
theorem at_rep {H : Hp} {ds : List Dt} {vs : List V} {i : Int} {d : Dt} (r : Reps K H ds vs) (h : atI ds i = some d) : ∃ v, atI vs i = some v ∧ Rep K H d v := by
  unfold atI at h ⊢
  rw [r.len] at h
  cases e : ixN vs.length i with
  | none => rw [e] at h; cases h
  | some j =>
    rw [e] at h
    exact r.get h
/-- a[i] -/
theorem rv_ix {ds : List Dt} {i : Int} {d : Dt} (h : SV S x ds) (e : atI ds i = some d) (p : P d S) : Rv K (rIx K) x (.i i) S P := fun M H v w k r1 r2 Q o => by
  rw [r2.int_inv]
  rcases h with rfl | h
  · obtain ⟨a, vs, rfl, h2, h3⟩ := r1.t_inv
    obtain ⟨u, h4, h5⟩ := at_rep h3 e
    exact .inr (.inl ⟨a, vs, i, u, rfl, rfl, ex_t hid_ex h2, h4, o.at p k h5⟩)
  · obtain ⟨a, vs, rfl, h2, h3⟩ := lv_run k r1 h
    obtain ⟨u, h4, h5⟩ := at_rep h3 e
    exact .inl ⟨a, vs, i, u, rfl, rfl, h2, h4, o.at p k h5⟩
theorem atI_nn {α : Type} {ds : List α} {i : Int} {j : Nat} {d : α} (hi : i = (j : Int)) (h : ds[j]? = some d) : atI ds i = some d := by
  subst hi
  exact atI_nat h
theorem atI_neg {α : Type} {ds : List α} {k : Nat} {d : α} (hk : 0 < k) (h : k ≤ ds.length) (e : ds[ds.length - k]? = some d) : atI ds (-(k : Int)) = some d := by
  unfold atI ixN
  rw [if_neg (by omega), if_pos (by omega)]
  show ds[((-(k : Int)) + (ds.length : Int)).toNat]? = some d
  rw [show ((-(k : Int)) + (ds.length : Int)).toNat = ds.length - k by omega]
  exact e
theorem atI_back {α : Type} {ds : List α} {d : α} : atI (ds ++ [d]) (-1) = some d := by
  have := atI_neg (ds := ds ++ [d]) (k := 1) (d := d) (by decide) (by simp) (by simp)
  exact this
/-- list + list -/
theorem rv_cat {ds es : List Dt} (h1 : ∃ p, x = .a p ∧ S p = some (.l ds)) (h2 : ∃ p, y = .a p ∧ S p = some (.l es)) (hz : ds.length + es.length ≤ 100000) (p : P (.l (ds ++ es)) S ∨ ∀ p, S p = none → P (.a p) (S.put p (.l (ds ++ es)))) : Rv K rCat x y S P := fun M H v w k r1 r2 Q o => by
  obtain ⟨a, rfl, h1⟩ := h1
  obtain ⟨b, rfl, h2⟩ := h2
  obtain ⟨_, vs, e1, e2⟩ := k.sto a _ h1
  obtain ⟨_, ws, e3, e4⟩ := k.sto b _ h2
  refine ⟨a, b, vs, ws, r1.a_inv, r2.a_inv, e1, e3, by rw [← e2.len, ← e4.len]; exact Nat.le_trans hz (by decide), fun q hq => ?_⟩
  have r : Reps K (hid M H) (ds ++ es) (vs ++ ws) := Reps.append e2 e4
  rcases p with p | p
  · exact o.grow p k hq (rep_l (.inl (.inl (hid_new k hq))) (r.mono (ex_new hq)))
  · exact o.newL (p q (k.fresh hq).2) k hq r
/-- list * int -/
theorem rv_rep {ds : List Dt} {n : Nat} (h1 : ∃ p, x = .a p ∧ S p = some (.l ds)) (hz : ds.length * n ≤ 100000) (hn : n ≤ 100000) (p : P (.l (List.replicate n ds).flatten) S ∨ ∀ p, S p = none → P (.a p) (S.put p (.l (List.replicate n ds).flatten))) : Rv K rRep x (.i (n : Int)) S P := fun M H v w k r1 r2 Q o => by
  obtain ⟨a, rfl, h1⟩ := h1
  obtain ⟨_, vs, e1, e2⟩ := k.sto a _ h1
  rw [r2.int_inv]
  refine ⟨a, (n : Int), vs, r1.a_inv, rfl, e1, by omega, by omega, by rw [Int.toNat_natCast, ← e2.len]; exact Nat.le_trans hz (by decide), fun q hq => ?_⟩
  rw [Int.toNat_natCast]
  have r : Reps K (hid M H) (List.replicate n ds).flatten (List.replicate n vs).flatten := Reps.rep e2 n
  rcases p with p | p
  · exact o.grow p k hq (rep_l (.inl (.inl (hid_new k hq))) (r.mono (ex_new hq)))
  · exact o.newL (p q (k.fresh hq).2) k hq r
/-- tuple + tuple -/
theorem rv_catT {ds es : List Dt} (hz : ds.length + es.length ≤ 100000) (p : P (.t (ds ++ es)) S) : Rv K (rCatA K) (.t ds) (.t es) S P := fun M H v w k r1 r2 Q o => by
  obtain ⟨a, vs, rfl, h2, h3⟩ := r1.t_inv
  obtain ⟨b, ws, rfl, h4, h5⟩ := r2.t_inv
  refine ⟨a, b, vs, ws, rfl, rfl, ex_t hid_ex h2, ex_t hid_ex h4, by rw [← h3.len, ← h5.len]; exact Nat.le_trans hz (by decide), fun e => ?_, fun _ e => ?_, fun _ _ q hq => ?_⟩
  · have : ds = [] := List.length_eq_zero_iff.mp (by rw [h3.len, e]; rfl)
    subst this
    exact o.at p k r2
  · have : es = [] := List.length_eq_zero_iff.mp (by rw [h5.len, e]; rfl)
    subst this
    rw [List.append_nil] at p
    exact o.at p k r1
  · exact o.grow p k hq (rep_t (.inl (.inl (hid_new k hq))) ((Reps.append h3 h5).mono (ex_new hq)))
theorem rv_isB {a b : Bool} (p : P (.b (decide (a = b))) S) : Rv K rIsB (.b a) (.b b) S P := fun M H v w k r1 r2 Q o => ⟨a, b, r1.bl_inv, r2.bl_inv, o.at p k rep_b⟩
theorem rv_notB {a b : Bool} (p : P (.b (!decide (a = b))) S) : Rv K rNotB (.b a) (.b b) S P := fun M H v w k r1 r2 Q o => ⟨a, b, r1.bl_inv, r2.bl_inv, o.at p k rep_b⟩
/-- False in a list of truths -/
theorem inV_b : ∀ {bs : List Bool}, inV (.bl false) (bs.map V.bl) = !bs.all id
  | [] => rfl
  | b :: bs => by
    have ih := @inV_b bs
    unfold inV at ih ⊢
    rw [List.map_cons, List.any_cons, ih, List.all_cons]
    cases b <;> rfl
theorem all_flat_b : ∀ {bs : List Bool}, (bs.map V.bl).all flatV = true
  | [] => rfl
  | b :: bs => by rw [List.map_cons, List.all_cons, all_flat_b]; rfl
theorem rv_inB {bs : List Bool} (h : LV S y (bs.map Dt.b)) (p : P (.b (!bs.all id)) S) : Rv K (rIn K false) (.b false) y S P := fun M H v w k r1 r2 Q o => by
  obtain ⟨a, vs, rfl, h2, h3⟩ := lv_run k r2 h
  have e := h3.bools
  subst e
  refine ⟨a, _, rfl, .inl h2, by rw [r1.bl_inv]; rfl, all_flat_b, ?_⟩
  rw [r1.bl_inv, if_neg Bool.false_ne_true, inV_b]
  exact o.at p k rep_b
theorem ru_neg {a : Int} (p : P (.i (-a)) S) : Ru K (rU fun i => .int (-i)) (.i a) S P := fun M H v k r1 Q o => ⟨a, r1.int_inv, o.at p k rep_i⟩

/-! ### calls on values -/
theorem Rc.orL {xs : List Dt} {r r' : List V → Hp → VK → Prop} (h : Rc K r xs S P) : Rc K (fun x H Q => r x H Q ∨ r' x H Q) xs S P := fun M H vs k r1 Q o => .inl (h M H vs k r1 Q o)
theorem Rc.orR {xs : List Dt} {r r' : List V → Hp → VK → Prop} (h : Rc K r' xs S P) : Rc K (fun x H Q => r x H Q ∨ r' x H Q) xs S P := fun M H vs k r1 Q o => .inr (h M H vs k r1 Q o)
theorem rc_len {ds : List Dt} (h : SV S x ds) (p : P (.i (ds.length : Int)) S) : Rc K (fun xs H Q => ∃ p ys, xs = [.ref p] ∧ (SqL K H p ys ∨ SqT K H p ys) ∧ Q (.int ys.length) H) [x] S P := fun M H vs k r1 Q o => by
  obtain ⟨v, rfl, r⟩ := r1.one
  obtain ⟨a, ws, rfl, h2, h3⟩ := sv_run k r h
  exact ⟨a, ws, rfl, h2, o.at p k (by rw [h3.len]; exact rep_i)⟩
theorem rc_list {ds : List Dt} (h : SV S x ds) (p : P (.l ds) S ∨ ∀ p, S p = none → P (.a p) (S.put p (.l ds))) : Rc K (fun xs H Q => ∃ p ys, xs = [.ref p] ∧ (SqL K H p ys ∨ SqT K H p ys) ∧ ∀ l, H l = none → Q (.ref l) (upd H l (.lst ys))) [x] S P := fun M H vs k r1 Q o => by
  obtain ⟨v, rfl, r⟩ := r1.one
  obtain ⟨a, ws, rfl, h2, h3⟩ := sv_run k r h
  refine ⟨a, ws, rfl, h2, fun q hq => ?_⟩
  rcases p with p | p
  · exact o.grow p k hq (rep_l (.inl (.inl (hid_new k hq))) (h3.mono (ex_new hq)))
  · exact o.newL (p q (k.fresh hq).2) k hq h3
theorem rc_tuple {ds : List Dt} (h : SV S x ds) (p : P (.t ds) S) : Rc K (fun xs H Q => ∃ p ys, xs = [.ref p] ∧ ((SqL K H p ys ∧ ∀ l, H l = none → Q (.ref l) (upd H l (.tup ys))) ∨ (SqT K H p ys ∧ Q (.ref p) H))) [x] S P := fun M H vs k r1 Q o => by
  obtain ⟨v, rfl, r⟩ := r1.one
  rcases h with rfl | h
  · obtain ⟨a, ws, rfl, h2, h3⟩ := r.t_inv
    exact ⟨a, ws, rfl, .inr ⟨ex_t hid_ex h2, o.at p k r⟩⟩
  · obtain ⟨a, ws, rfl, h2, h3⟩ := lv_run k r h
    exact ⟨a, ws, rfl, .inl ⟨h2, fun q hq => o.grow p k hq (rep_t (.inl (.inl (hid_new k hq))) (h3.mono (ex_new hq)))⟩⟩
theorem rc_max {a b : Int} (p : P (.i (max a b)) S) : Rc K (fun xs H Q => ∃ i j, xs = [.int i, .int j] ∧ Q (.int (if j > i then j else i)) H) [.i a, .i b] S P := fun M H vs k r1 Q o => by
  obtain ⟨v, w, rfl, q1, q2⟩ := r1.two
  rw [q1.int_inv, q2.int_inv]
  refine ⟨a, b, rfl, o.at p k ?_⟩
  rw [show (if b > a then b else a) = max a b by split <;> omega]
  exact rep_i
theorem rc_min {a b : Int} (p : P (.i (min a b)) S) : Rc K (fun xs H Q => ∃ i j, xs = [.int i, .int j] ∧ Q (.int (if j < i then j else i)) H) [.i a, .i b] S P := fun M H vs k r1 Q o => by
  obtain ⟨v, w, rfl, q1, q2⟩ := r1.two
  rw [q1.int_inv, q2.int_inv]
  refine ⟨a, b, rfl, o.at p k ?_⟩
  rw [show (if b < a then b else a) = min a b by split <;> omega]
  exact rep_i
theorem rc_abs {a : Int} (p : P (.i (a.natAbs : Int)) S) : Rc K (fun xs H Q => ∃ i, xs = [.int i] ∧ Q (.int (if i < 0 then -i else i)) H) [.i a] S P := fun M H vs k r1 Q o => by
  obtain ⟨v, rfl, q1⟩ := r1.one
  rw [q1.int_inv]
  refine ⟨a, rfl, o.at p k ?_⟩
  rw [show (if a < 0 then -a else a) = (a.natAbs : Int) by split <;> omega]
  exact rep_i
theorem rc_intB {c : Bool} (p : P (.i (if c then 1 else 0)) S) : Rc K (fun xs H Q => (∃ i, xs = [.int i] ∧ Q (.int i) H) ∨ ∃ k, xs = [.bl k] ∧ Q (.int (if k then 1 else 0)) H) [.b c] S P := fun M H vs k r1 Q o => by
  obtain ⟨v, rfl, q1⟩ := r1.one
  rw [q1.bl_inv]
  exact .inr ⟨c, rfl, o.at p k rep_i⟩
theorem rc_any {bs : List Bool} (h : LV S x (bs.map Dt.b)) (p : P (.b (bs.any id)) S) : Rc K (rAny K) [x] S P := fun M H vs k r1 Q o => by
  obtain ⟨v, rfl, r⟩ := r1.one
  obtain ⟨a, ws, rfl, h2, h3⟩ := lv_run k r h
  have e := h3.bools
  subst e
  exact ⟨a, bs, rfl, h2, o.at p k rep_b⟩
theorem rc_all {bs : List Bool} (h : LV S x (bs.map Dt.b)) (p : P (.b (bs.all id)) S) : Rc K (rAll K) [x] S P := fun M H vs k r1 Q o => by
  obtain ⟨v, rfl, r⟩ := r1.one
  obtain ⟨a, ws, rfl, h2, h3⟩ := lv_run k r h
  have e := h3.bools
  subst e
  exact ⟨a, bs, rfl, h2, o.at p k rep_b⟩
theorem ty_t {H : Hp} {M : List Addr} {ds : List Dt} {v : V} (r : Rep K (hid M H) (.t ds) v) : TyX K H v (.type "tuple") := by
  obtain ⟨a, vs, rfl, h2, _⟩ := r.t_inv
  rcases ex_t hid_ex h2 with (h | ⟨o, h⟩) | ⟨o, its, n, h, hc, _⟩
  · exact .base (.tup h)
  · exact .fTuple h
  · exact .kTuple h hc
def tyD : Dt → Option String
  | .b _ => some "bool"
  | .i _ => some "int"
  | .s _ => some "str"
  | .t _ => some "tuple"
  | _ => none
theorem ty_d {H : Hp} {M : List Addr} {v : V} {n : String} : ∀ {d : Dt}, tyD d = some n → Rep K (hid M H) d v → TyX K H v (.type n)
  | .b c, e, r => by cases e; rw [r.bl_inv]; exact .base (.bl c)
  | .i c, e, r => by cases e; rw [r.int_inv]; exact .base (.int c)
  | .s c, e, r => by cases e; rw [r.str_inv]; exact .base (.str c)
  | .t ds, e, r => by cases e; exact ty_t r
/-- isinstance(x, T), T a built-in type -/
theorem rc_isi {n T : String} {c : Bool} (e : tyD x = some n) (h : kitB n T = some c) (p : P (.b c) S) : ∀ M H vs, Stk K M S H → (∃ v, vs = [v, V.ty T] ∧ Rep K (hid M H) x v) → ∀ Q, Out K S M H P Q → rIsi K vs H Q := fun M H vs k r1 Q o => by
  obtain ⟨v, rfl, r⟩ := r1
  exact ⟨v, .ty T, .type n, .type T, c, rfl, .ty T, ty_d e r, kit_ty h, o.at p k rep_b⟩
end

/-! ### slices -/
def cutD (ds : List Dt) (lo hi : Option Int) : List Dt := (ds.drop (HT.sIx ds.length 0 lo)).take (HT.sIx ds.length ds.length hi - HT.sIx ds.length 0 lo)
def EvO (K : PySem.W.Frag) (t : TO) (sl : Sl) (S : Sto) (P : Option Int → Sto → Prop) : Prop := ∀ M σ H, Holds K M S sl σ H → ∀ Q : Option Int → Hp → Prop, (∀ b S' M' H', P b S' → Stk K M' S' H' → Stp S M H S' M' H' → Q b H') → t σ H Q
section
variable {K : PySem.W.Frag} {S : Sto} {sl : Sl} {P : PD} {te : TE} {tl th : TO}
theorem eo_none {P : Option Int → Sto → Prop} (h : P none S) : EvO K tNoPart sl S P := fun M σ H hd Q o => o none S M H h hd.stk (Stp.refl _ _ _)
theorem eo_some {P : Option Int → Sto → Prop} (h : Ev K te sl S fun d S1 => ∃ i, d = .i i ∧ P (some i) S1) : EvO K (tPart te) sl S P := fun M σ H hd Q o =>
  h M σ H hd _ fun d S1 M1 v H1 p1 k1 s1 r1 => by
    obtain ⟨i, rfl, p⟩ := p1
    exact ⟨i, r1.int_inv, o (some i) S1 M1 H1 p k1 s1⟩
/-- of a tuple -/
theorem ev_slT (h : Ev K te sl S fun d S1 => EvO K tl sl S1 fun lo S2 => EvO K th sl S2 fun hi S3 => ∃ ds, d = .t ds ∧ P (.t (cutD ds lo hi)) S3) : Ev K (tSl (rSlA K) te tl th) sl S P := fun M σ H hd Q o =>
  h M σ H hd _ fun d S1 M1 v H1 p1 k1 s1 r1 => p1 M1 σ H1 (hd.step k1 s1) _ fun lo S2 M2 H2 p2 k2 s2 => p2 M2 σ H2 ((hd.step k1 s1).step k2 s2) _ fun hi S3 M3 H3 p3 k3 s3 => by
    obtain ⟨ds, rfl, p⟩ := p3
    have r3 := (r1.mono s2.sub).mono s3.sub
    obtain ⟨a, vs, rfl, h2, h3⟩ := r3.t_inv
    have o3 := ((o.after s1).after s2).after s3
    have hl := h3.len
    have rc : Reps K (hid M3 H3) (cutD ds lo hi) (cutV vs lo hi) := by
      unfold cutD cutV
      rw [hl]
      exact (h3.drop _).take _
    refine ⟨a, vs, rfl, ex_t hid_ex h2, fun e => ?_, fun _ q hq => o3.grow p k3 hq (rep_t (.inl (.inl (hid_new k3 hq))) (rc.mono (ex_new hq)))⟩
    have e2 : cutD ds lo hi = ds := by
      unfold cutD
      rw [hl, e.1, e.2, Nat.sub_zero, List.drop_zero, ← hl, List.take_length]
    rw [e2] at p
    exact o3.at p k3 r3
/-- of a list -/
theorem ev_slL (h : Ev K te sl S fun d S1 => EvO K tl sl S1 fun lo S2 => EvO K th sl S2 fun hi S3 => ∃ ds, d = .l ds ∧ P (.l (cutD ds lo hi)) S3) : Ev K (tSl (rSlL K) te tl th) sl S P := fun M σ H hd Q o =>
  h M σ H hd _ fun d S1 M1 v H1 p1 k1 s1 r1 => p1 M1 σ H1 (hd.step k1 s1) _ fun lo S2 M2 H2 p2 k2 s2 => p2 M2 σ H2 ((hd.step k1 s1).step k2 s2) _ fun hi S3 M3 H3 p3 k3 s3 => by
    obtain ⟨ds, rfl, p⟩ := p3
    have r3 := (r1.mono s2.sub).mono s3.sub
    obtain ⟨a, vs, rfl, h2, h3⟩ := r3.l_inv
    have o3 := ((o.after s1).after s2).after s3
    have hl := h3.len
    have rc : Reps K (hid M3 H3) (cutD ds lo hi) (cutV vs lo hi) := by
      unfold cutD cutV
      rw [hl]
      exact (h3.drop _).take _
    exact ⟨a, vs, rfl, ex_l hid_ex h2, fun q hq => o3.grow p k3 hq (rep_l (.inl (.inl (hid_new k3 hq))) (rc.mono (ex_new hq)))⟩
end

/-! ### methods, stores -/
section
variable {K : PySem.W.Frag} {S : Sto} {sl : Sl} {P : PD} {N : NX} {R : PD} {te to ti : TE}
theorem ty_lst {H : Hp} {p : Addr} {vs : List V} (h : H p = some (.lst vs)) : tyV K "list" (.ref p) H := .inl ⟨rfl, vs, .inl (.inl h)⟩
theorem ev_append (h : Ev K to sl S fun d S1 => ∃ p ds, d = .a p ∧ S1 p = some (.l ds) ∧ Ev K te sl S1 fun x S2 => S2 p = some (.l ds) ∧ ds.length < 100000 ∧ P .n (S2.put p (.l (ds ++ [x])))) : Ev K (tBM K "list" rAppend to (tCons te tNil)) sl S P := fun M σ H hd Q o =>
  h M σ H hd _ fun d S1 M1 v H1 p1 k1 s1 r1 => by
    obtain ⟨p, ds, rfl, e1, p1⟩ := p1
    have hv := r1.a_inv
    subst hv
    obtain ⟨_, vs0, c1, c2⟩ := k1.sto p _ e1
    refine ⟨ty_lst c1, p1 M1 σ H1 (hd.step k1 s1) _ fun x S2 M2 w H2 p2 k2 s2 r2 => ?_⟩
    obtain ⟨e2, hz, hp⟩ := p2
    obtain ⟨m2, vs, c3, c4⟩ := k2.sto p _ e2
    obtain ⟨k3, s3⟩ := k2.write (c := .l (ds ++ [x])) (o := .lst (vs ++ [w])) e2 ⟨_, upd_same, by rw [hid_upd m2]; exact Reps.append c4 (Reps.cons r2 Reps.nil)⟩
    exact ⟨p, vs, w, rfl, rfl, c3, by rw [← c4.len]; exact Nat.lt_of_lt_of_le hz (by decide), o .n _ _ _ _ hp k3 ((s1.trans s2).trans s3) rep_n⟩
theorem ev_pop (h : Ev K to sl S fun d S1 => ∃ p ds x, d = .a p ∧ S1 p = some (.l (ds ++ [x])) ∧ P x (S1.put p (.l ds))) : Ev K (tBM0 K "list" rPop to) sl S P := fun M σ H hd Q o =>
  h M σ H hd _ fun d S1 M1 v H1 p1 k1 s1 r1 => by
    obtain ⟨p, ds, x, rfl, e1, hp⟩ := p1
    have hv := r1.a_inv
    subst hv
    obtain ⟨m1, vs, c1, c2⟩ := k1.sto p _ e1
    have hl := c2.len
    rw [List.length_append, List.length_singleton] at hl
    obtain ⟨w, g1, g2⟩ := c2.get (i := ds.length) (d := x) (by simp)
    have gd : Reps K (hid M1 H1) ds vs.dropLast := by
      have := c2.dropLast
      rw [List.dropLast_concat] at this
      exact this
    obtain ⟨k3, s3⟩ := k1.write (c := .l ds) (o := .lst vs.dropLast) e1 ⟨_, upd_same, by rw [hid_upd m1]; exact gd⟩
    refine ⟨ty_lst c1, p, vs, w, rfl, rfl, c1, by rw [show vs.length - 1 = ds.length by omega]; exact g1, o x _ _ _ _ hp k3 (s1.trans s3) ?_⟩
    rw [hid_upd m1]
    exact g2
theorem wp_setL (h : Ev K te sl S fun x S1 => Ev K to sl S1 fun d S2 => Ev K ti sl S2 fun k S3 => ∃ p ds i j, d = .a p ∧ k = .i i ∧ S3 p = some (.l ds) ∧ ixN ds.length i = some j ∧ N sl (S3.put p (.l (ds.set j x)))) : WP K (tAsg te (gSub to ti rSetL)) sl S N R := fun M σ H D hd n _ =>
  h M σ H hd _ fun x S1 M1 v H1 p1 k1 s1 r1 => p1 M1 σ H1 (hd.step k1 s1) _ fun d S2 M2 w H2 p2 k2 s2 r2 => p2 M2 σ H2 ((hd.step k1 s1).step k2 s2) _ fun kk S3 M3 u H3 p3 k3 s3 r3 => by
    obtain ⟨p, ds, i, j, rfl, rfl, e, hj, hn⟩ := p3
    obtain ⟨m3, vs, c1, c2⟩ := k3.sto p _ e
    have rx := (r1.mono s2.sub).mono s3.sub
    obtain ⟨k4, s4⟩ := k3.write (c := .l (ds.set j x)) (o := .lst (vs.set j v)) e ⟨_, upd_same, by rw [hid_upd m3]; exact Reps.set rx j c2⟩
    refine ⟨p, vs, i, j, (r2.mono s3.sub).a_inv, r3.int_inv, c1, by rw [← c2.len]; exact hj, ?_⟩
    exact n _ _ _ _ _ hn ((((hd.step k1 s1).step k2 s2).step k3 s3).step k4 s4) (((s1.trans s2).trans s3).trans s4)
theorem ixN_nn {n j : Nat} {i : Int} (hi : i = (j : Int)) (h : j < n) : ixN n i = some j := by
  subst hi
  unfold ixN
  rw [if_pos (by omega), if_pos (by omega), Int.toNat_natCast]
end

/-! ### a def -/
def stE (n : Nat) (ds : List Dt) : Sl := ds.map some ++ List.replicate (n - ds.length) none
section
variable {P : Program} {w : World} {K : PySem.W.Frag} {mg : Str → Option Value} {base : Heap}
theorem start_holds {M : List Addr} {S : Sto} {H : Hp} {N : List Str} {ds : List Dt} {vs : List V} (k : Stk K M S H) (r : Reps K (hid M H) ds vs) : Holds K M S (stE N.length ds) (L2.start N vs) H := by
  have hl := r.len
  refine ⟨k, by unfold stE L2.start; simp [hl], fun i d e => ?_⟩
  unfold stE at e
  by_cases hi : i < ds.length
  · rw [List.getElem?_append_left (by simpa using hi), List.getElem?_map] at e
    obtain ⟨d', h1, h2⟩ := Option.map_eq_some_iff.mp e
    cases h2
    obtain ⟨v, h3, h4⟩ := r.get h1
    refine ⟨v, ?_, h4⟩
    unfold L2.start
    rw [List.getElem?_append_left (by simp; omega), List.getElem?_map, h3]; rfl
  · rw [List.getElem?_append_right (by simpa using hi)] at e
    obtain ⟨h1, h2⟩ := List.getElem?_eq_some_iff.mp e
    simp at h2
theorem run_P {Rl : List Dt → Dt → Prop} {N : List Str} {vs : List V} {H : Hp} {Q : VK} {E : XK} {t : TS} (h : spP K Rl vs H Q E)
    (wp : ∀ ds r, Rl ds r → WP K t (stE N.length ds) nos (fun _ _ => r = .n) (fun d _ => d = r)) : t { nx := fun _ H' => Q .non H', rt := Q } (L2.start N vs) H := by
  obtain ⟨M, ds, r, dom, rp, hr, q⟩ := h
  have k : Stk K M nos H := ⟨dom, fun p c hp => by cases hp⟩
  have fin : ∀ S' M' v H', Stp nos M H S' M' H' → Rep K (hid M' H') r v → Q v H' := fun S' M' v H' s rv =>
    q v H' (fun a o e => (s.same a o rfl e).1) (rv.mono (hid_mono (Ex.refl _) fun a ha _ => by
      cases e : H a with
      | none => exact absurd e (dom a ha)
      | some o => exact s.keep a o ha e rfl))
  refine wp ds r hr M _ H _ (start_holds k rp) (fun sl' S' M' σ' H' e hd s => ?_) (fun d S' M' v H' e k' s rv => ?_)
  · subst e
    exact fin S' M' .non H' s rep_n
  · subst e
    exact fin S' M' v H' s rv
theorem run_S {Rl : List Dt → Sto → (Dt → Sto → Prop) → Prop} {N : List Str} {vs : List V} {H : Hp} {Q : VK} {E : XK} {t : TS} (h : spS K Rl vs H Q E)
    (wp : ∀ ds S Pd, Rl ds S Pd → WP K t (stE N.length ds) S (fun _ S' => Pd .n S') Pd) : t { nx := fun _ H' => Q .non H', rt := Q } (L2.start N vs) H := by
  obtain ⟨M, S, ds, Pd, k, rp, hr, q⟩ := h
  refine wp ds S Pd hr M _ H _ (start_holds k rp) (fun sl' S' M' σ' H' e hd s => q _ S' M' _ H' e hd.stk s rep_n) q
theorem okP {x : Str} {st : Stmt} {f : Addr} {fd : FuncData} {N ps : List Str} {k : Nat} {Rl : List Dt → Dt → Prop} (F : Fun K x x st f fd) (Sc : FnScope N ps (defScope st)) (hl : ∀ ds r, Rl ds r → ds.length = ps.length)
    (hb : ∀ (cdv : Value) (A : Around) (outer : List Env) (s : Shared) (H : Hp) (E : XK), Room k (A.deeper (envOfC x (defScope st) s.heap.objs.size f cdv)) →
      ∃ t, PSs (cxOf CX0 P w K mg base N x (defScope st) f cdv A outer s H E).nox (defBody st) t ∧ ∀ ds r, Rl ds r → WP K t (stE N.length ds) nos (fun _ _ => r = .n) (fun d _ => d = r)) : FnOk P w K mg base CX0 (k + 1) f fd ps (spP K Rl) := by
  refine F.ok Sc (fun vs H Q E h => ?_) (fun cdv A outer s H vs Q E hr h => ?_)
  · obtain ⟨M, ds, r, _, rp, hr, _⟩ := h
    rw [← rp.len]
    exact hl ds r hr
  · obtain ⟨t, h1, h2⟩ := hb cdv A outer s H E hr
    exact ⟨t, h1, run_P h h2⟩
theorem okS {x : Str} {st : Stmt} {f : Addr} {fd : FuncData} {N ps : List Str} {k : Nat} {Rl : List Dt → Sto → (Dt → Sto → Prop) → Prop} (F : Fun K x x st f fd) (Sc : FnScope N ps (defScope st)) (hl : ∀ ds S Pd, Rl ds S Pd → ds.length = ps.length)
    (hb : ∀ (cdv : Value) (A : Around) (outer : List Env) (s : Shared) (H : Hp) (E : XK), Room k (A.deeper (envOfC x (defScope st) s.heap.objs.size f cdv)) →
      ∃ t, PSs (cxOf CX0 P w K mg base N x (defScope st) f cdv A outer s H E).nox (defBody st) t ∧ ∀ ds S Pd, Rl ds S Pd → WP K t (stE N.length ds) S (fun _ S' => Pd .n S') Pd) : FnOk P w K mg base CX0 (k + 1) f fd ps (spS K Rl) := by
  refine F.ok Sc (fun vs H Q E h => ?_) (fun cdv A outer s H vs Q E hr h => ?_)
  · obtain ⟨M, S, ds, Pd, _, rp, hr, _⟩ := h
    rw [← rp.len]
    exact hl ds S Pd hr
  · obtain ⟨t, h1, h2⟩ := hb cdv A outer s H E hr
    exact ⟨t, h1, run_S h h2⟩
/-- a def as it stands behind the top -/
structure DefAt (K : PySem.W.Frag) (mg : Str → Option Value) (x : Str) (st : Stmt) (ps : List Str) where
  f : Addr
  fd : FuncData
  F : Fun K x x st f fd
  g : mg x = some (.ref f)
  b : Binds K fd ps []
end
end Nf

set_option Elab.async false
set_option linter.all false
set_option maxRecDepth 100000
set_option maxHeartbeats 2000000
/-! Rules that the hand layer lacks: enumerate(tuple). -/
namespace Nf
open PySem PySem.Spec PyProof.Rows L2 RT RZ

theorem meets_enumerate_new1 {v : Value} {o : Obj} {H : Heap → Prop} (B : Begins v o H) :
    Meets (Builtin.«enumerate.__new__» ⟨[.type "enumerate", v], []⟩) (fun _ R s => H s.heap ∧
      R (.ok (.ret (.ref (s.heap.push o).objs.size))) { s with heap := (s.heap.push o).push { cls := .type "enumerate", data := .fields #[.none, .bool false, .ref s.heap.objs.size, rawInt 0, .none, .none] } }) :=
  .of_wp fun prog w A R s h => by
    obtain ⟨hp, g, d, tk, os⟩ := s; obtain ⟨h1, h⟩ := h
    have hsub := sub_enumerate
    have q1 : ∀ {A' : Around} {E : Value → Shared → Prop} {Q : Value → Shared → Prop}, Q (.ref hp.objs.size) ⟨hp.push o, g, d, tk, os⟩ → wpAny (model prog w) A' (pyIter v) Q E ⟨hp, g, d, tk, os⟩ :=
      fun q => B.iter prog w _ _ ⟨hp, g, d, tk, os⟩ _ h1 q
    wp_walk using q1
    refine wpAny_stack_any fun st => wpAny_pure ?_
    split
    · rename_i c _ _ _ _ _
      cases (c == Value.type "enumerate")
      · wp_walk using q1
        exact ⟨_, rfl, h⟩
      · wp_walk using q1
        exact ⟨_, rfl, h⟩
    · wp_walk using q1
      exact ⟨_, rfl, h⟩
section
variable {prog : Program} {w : World} {A : Around} {E : Value → Shared → Prop} {s : Shared}
theorem enum_begins1 {v : Value} {o : Obj} {H : Heap → Prop} {Q : Value → Shared → Prop} (B : Begins v o H) (h1 : H s.heap)
    (h : ∀ h', IsEnum h' (s.heap.objs.size + 1) s.heap.objs.size 0 .none → h'.get? s.heap.objs.size = some o → h'.objs.size = s.heap.objs.size + 2 →
      (∀ b o, s.heap.get? b = some o → h'.get? b = some o) → Q (.ref (s.heap.objs.size + 1)) { s with heap := h' }) :
    wpAny (model prog w) A (call (.type "enumerate") [v]) Q E s := by
  refine callType_new F.called_enumerate (by decide) (F.typeCall_enumerate_1 _) (F.newCall_enumerate_1 _) (fun obj => F.args_object_init_2 obj _) F.entry_enumerate_new
    (meets_enumerate_new1 B) ⟨h1, ?_⟩
  have hz : (s.heap.push o).objs.size = s.heap.objs.size + 1 := Heap.size_push ..
  show _ ∧ _
  rw [hz]
  have he : IsEnum ((s.heap.push o).push { cls := .type "enumerate", data := .fields #[.none, .bool false, .ref s.heap.objs.size, rawInt 0, .none, .none] }) (s.heap.objs.size + 1) s.heap.objs.size 0 .none := by
    have := Heap.get?_push_size (s.heap.push o) (o := { cls := .type "enumerate", data := .fields #[.none, .bool false, .ref s.heap.objs.size, rawInt 0, .none, .none] }) rfl
    rw [hz] at this; exact this
  refine ⟨⟨_, he, rfl⟩, h _ he (Heap.get?_push_of_some _ (Heap.get?_push_size _ B.free)) (by rw [Heap.size_push, hz]) fun b o x => Heap.get?_push_of_some _ (Heap.get?_push_of_some _ x)⟩
end

/-- the tuple at a as it stands at each turn, each item in a new pair -/
def IteT (K : PySem.W.Frag) (a : Addr) : It :=
  ⟨fun i H => ∃ (xs : List V) (x : V), SqT K H a xs ∧ xs[i]? = some x, fun i H v H' => ∃ T x, v = .ref T ∧ H T = none ∧ H' = upd H T (.tup [.int (i : Nat), x]) ∧ ∀ xs, SqT K H a xs → xs[i]? = some x, fun i H => ∃ xs : List V, SqT K H a xs ∧ xs.length ≤ i⟩
theorem turn_enumT {P : Program} {w : World} {K : PySem.W.Frag} {elts : List Expr} {kk : Nat} {tpos : Pos} (a e it : Addr) :
    Turn P w K (.Tuple elts kk tpos) (IteT K a) [e, it] e (fun i h => (∃ old, IsEnum h e it ((i : Nat) : Int) old) ∧ h.IsTupleIter it a i ∧ e ≠ it) where
  mem := by simp
  obj := fun i h st b hb => by
    obtain ⟨⟨old, he⟩, ⟨o, ho, hc, hd⟩, _⟩ := st
    have e' : b = e ∨ b = it := by simpa using hb
    rcases e' with z | z
    · rw [z]; exact ⟨_, he, fun v q => nomatch q⟩
    · rw [z]; exact ⟨o, ho, fun v q => by rw [hd] at q; cases q⟩
  keep := fun i h h' st k => let ⟨⟨old, he⟩, hi, hne⟩ := st; ⟨⟨old, k e (by simp) _ he⟩, hi.at fun o q => k it (by simp) o q, hne⟩
  item := by
    intro X hP hw hK hc i pins s σ H E I hf st hg
    subst hP hw hK
    obtain ⟨⟨old, he⟩, hit, hne⟩ := st
    obtain ⟨xs, x, hq, hx⟩ := hg
    obtain ⟨its, rv, p, hz⟩ := I.tuple hq
    obtain ⟨u, hu, ru⟩ := rv.get hx
    have hel : e < s.heap.objs.size := Heap.lt_size he
    have hil : it < s.heap.objs.size := by obtain ⟨_, q, _⟩ := hit; exact Heap.lt_size q
    have pt : s.heap.IsTuple a its.toArray := p
    have hae : a ≠ e := fun z => by
      obtain ⟨o, h1, h2, _⟩ := id pt
      rw [z] at h1
      have h3 : s.heap.get? e = some _ := he
      rw [h3] at h1; cases h1; injection h2 with h2; exact absurd h2 (by decide)
    have hai : a ≠ it := fun z => by
      obtain ⟨o, h1, h2, _⟩ := id pt
      obtain ⟨o', h3, h4, _⟩ := id hit
      rw [z, h3] at h1; cases h1; rw [h4] at h2; injection h2 with h2; exact absurd h2 (by decide)
    have hlt : i < its.toArray.size := by
      have := (List.getElem?_eq_some_iff.mp hu).1
      simpa using this
    refine wpAny_pyNext_enum_itemD (Draws.tuple (A := X.A.in1) (I.ok.hd hc) it a hai its.toArray) he ⟨hit, pt⟩ hlt hne (by simp [hne, hae.symm]) fun x' h' tk hP ho hst' hT hsz hk => ?_
    have hx' : x' = u := by
      have h0 : its.toArray[i]? = some u := by simpa using hu
      rw [h0] at hP
      exact (Option.some.inj hP).symm
    subst hx'
    obtain ⟨hit', _⟩ := hst'
    refine ⟨_, rfl, wpAny_letOwnedTupleGo_enum (s := { s with heap := h', toks := tk + 1 }) ho fun h'' he' sb => ?_⟩
    have hT2 : h''.get? s.heap.objs.size = some { cls := .type "tuple", data := .seq #[.int i tk, x'] } := (sb.2 _ (Nat.ne_of_gt hel)).trans hT
    have new : ObjOk X.prog X.w (upd H s.heap.objs.size (.tup [.int (i : Nat), x])) h'' s.heap.objs.size (.tup [.int (i : Nat), x]) :=
      ⟨by show 2 ≤ sizeLine; decide, [.int i tk, x'], .cons ⟨_, rfl⟩ (.cons ru .nil), ⟨_, hT2, rfl, _, rfl⟩⟩
    have I1 : Inv X pins σ (upd H s.heap.objs.size (.tup [.int (i : Nat), x])) { s with heap := h'', toks := tk + 1 } :=
      I.turnedNew (ch := [e, it]) (fun b ob hb q => (sb.2 b (fun z => hb (by simp [z]))).trans (hk b ob (fun z => hb (by simp [z])) (fun z => hb (by simp [z])) q)) hf (Nat.le_refl _) new
    refine ⟨.ref s.heap.objs.size, _, I1, rfl, ⟨_, x, rfl, I.hok.fresh (Nat.le_refl _), rfl, fun ys hy => by rw [I.tuple_inj hy hq]; exact hx⟩, ⟨⟨x', ?_⟩, hit'.at fun o q => (sb.2 it (Ne.symm hne)).trans q, hne⟩, fun b hb => ?_⟩
    · have e1 : ((i + 1 : Nat) : Int) = (i : Int) + 1 := by omega
      rw [e1]; exact he'
    · have hb' : b < s.heap.objs.size := by
        have e' : b = e ∨ b = it := by simpa using hb
        rcases e' with z | z
        · rw [z]; exact hel
        · rw [z]; exact hil
      rw [upd_ne (Nat.ne_of_lt hb')]
      exact (hf b hb).1
  done := by
    intro X hP hw hK hc i pins s σ H E I hf st hg
    subst hP hw hK
    obtain ⟨⟨old, he⟩, hit, hne⟩ := st
    obtain ⟨xs, hq, hx⟩ := hg
    obtain ⟨its, rv, p, hz⟩ := I.tuple hq
    obtain ⟨f0, f1, f2, f3, f4, f5⟩ := hf it (by simp)
    have hl := rv.length
    have pt : s.heap.IsTuple a its.toArray := p
    have hT : s.TypeIs (.ref e) "enumerate" := ⟨_, he, rfl⟩
    unfold pyNext
    refine wpAny_bind (wpAny_attempt (wpAny_callSpecial?_slot (name := Str.ofString "__next__") hT F.slot_enumerate_next
      (wpAny_call_entry F.slot_enumerate_next hT F.entry_enumerate_next ?_ (F.args_enumerate_next_1 _))))
    show wpAny _ _ (field (.ref e) 2 >>= _) _ _ _
    refine wpAny_bind (wpAny_field he rfl (x := .ref it) rfl ?_)
    refine wpAny_bind (wpAny_nextOf_tuple_end (I.ok.hd hc) hit pt (by simp; omega) fun h' x he' hx' => ?_)
    obtain ⟨o, ho, hc⟩ := hx'
    refine wpAny_bind (wpAny_isInstance (T := "StopIteration") (b := true) ⟨o, ho, hc⟩ isSubtype_stop ?_)
    exact wpAny_pure ⟨rfl, I.turned (t' := s.toks) (fun b o hb q => he' b o hb q) f0 f1 f3 f4 f5⟩
  self := fun A i s Q E st h => let ⟨⟨_, he⟩, _⟩ := st; wpAny_pyIter_enum he h
/-- enumerate of a list or a tuple -/
def iEnumA (K : PySem.W.Frag) (ta : TA) : TI := fun σ H R => ta σ H fun vs H1 => ∃ a xs, vs = [.ref a] ∧ ((SqL K H1 a xs ∧ R (Ite K a) H1) ∨ (SqT K H1 a xs ∧ R (IteT K a) H1))
theorem pi_enumA {X : Cx} {e : Expr} {ta : TA} {p pos tpos : Pos} {elts : List Expr} {kk : Nat} (hg : Gl X "enumerate") (hm : X.mg "enumerate" = none) (ha : PA X [e] ta) (hs : starEach [e] X.env = [(false, eval e X.env)] := by rfl) :
    PI X (.Tuple elts kk tpos) (.Call (.Name "enumerate" p) [e] [] pos) (iEnumA X.K ta) := by
  refine ⟨fun pins s σ H R I h => ?_⟩
  refine Call_ (ld_blt I hg hm boot_enumerate (PyProof.Rows.callWith_type1 (thn (ha.run pos pins s σ H _ I h) fun us s1 ⟨vs, H1, I1, r1, q1⟩ => ?_) hs rfl))
  obtain ⟨a, xs, ex, q⟩ := q1
  subst ex
  cases r1 with
  | cons r rr =>
    cases rr
    cases r
    have fresh : ∀ b, b ∈ [s1.heap.objs.size + 1, s1.heap.objs.size] → FpOk X pins H1 b := fun b hb => by
      have e' : b = s1.heap.objs.size + 1 ∨ b = s1.heap.objs.size := by simpa using hb
      have hle : s1.heap.objs.size ≤ b := by
        rcases e' with z | z
        · rw [z]; exact Nat.le_add_right _ _
        · rw [z]; exact Nat.le_refl _
      exact I1.fpOk hle (I1.hok.fresh hle)
    rcases q with ⟨hq, q⟩ | ⟨hq, q⟩
    · obtain ⟨its, rv, p', hz⟩ := I1.list hq
      refine call_enumerate_list p'.isList fun h' he hit hsz hk => wpAny_pyIter_enum he ?_
      have I2 : Inv X pins σ H1 { s1 with heap := h' } := I1.kept (t' := s1.toks) hk
      exact ⟨s1.heap.objs.size + 1, [s1.heap.objs.size + 1, s1.heap.objs.size], _, _, H1, rfl, I2, turn_enum a (s1.heap.objs.size + 1) s1.heap.objs.size, ⟨⟨.none, he⟩, hit, Nat.succ_ne_self _⟩, fresh, q⟩
    · obtain ⟨its, rv, p', hz⟩ := I1.tuple hq
      refine enum_begins1 (begins_tuple a its.toArray) p' fun h' he hit hsz hk => wpAny_pyIter_enum he ?_
      have I2 : Inv X pins σ H1 { s1 with heap := h' } := I1.kept (t' := s1.toks) hk
      exact ⟨s1.heap.objs.size + 1, [s1.heap.objs.size + 1, s1.heap.objs.size], _, _, H1, rfl, I2, turn_enumT a (s1.heap.objs.size + 1) s1.heap.objs.size, ⟨⟨.none, he⟩, ⟨_, hit, rfl, rfl⟩, Nat.succ_ne_self _⟩, fresh, q⟩
section
variable {K : PySem.W.Frag} {S : Sto} {sl : Sl} {P : List Dt → Sto → Prop} {tr : TA}
theorem ei_enum (h : EvA K tr sl S fun xs S1 => ∃ ds, (xs = [.l ds] ∨ xs = [.t ds]) ∧ P (enD 0 ds) S1) : EvI K (iEnumA K tr) sl S P := fun M σ H hd R o => by
  refine h M σ H hd _ fun xs S1 M1 us H1 p1 k1 s1 r1 => ?_
  obtain ⟨ds, e, p⟩ := p1
  rcases e with rfl | rfl
  · obtain ⟨v, rfl, r⟩ := r1.one
    obtain ⟨a, vs, rfl, q1, q2⟩ := r.l_inv
    have hl := q2.len
    refine ⟨a, vs, rfl, .inl ⟨ex_l hid_ex q1, o _ (enD 0 ds) S1 M1 H1 p k1 s1 ⟨fun S2 M2 H2 s k i hi => ?_, fun S2 M2 H2 s k i x H3 hi y => ?_, fun S2 M2 H2 s k => ?_⟩⟩⟩
    · rw [enD_len] at hi
      exact ⟨vs, vs[i]'(by omega), ex_l (s.sub.trans hid_ex) q1, by simp [show i < vs.length by omega]⟩
    · obtain ⟨T, u, rfl, y1, rfl, y2⟩ := y
      obtain ⟨d, h1, h2⟩ := Reps.get' q2 (y2 vs (ex_l (s.sub.trans hid_ex) q1))
      refine ⟨k.ext (Ex.new y1), Stp.ext (Ex.new y1) k.dom, _, enD_get h1, ?_⟩
      rw [Nat.zero_add]
      exact rep_pair k y1 rep_i (h2.mono s.sub)
    · exact ⟨vs, ex_l (s.sub.trans hid_ex) q1, by rw [enD_len, hl]; exact Nat.le_refl _⟩
  · obtain ⟨v, rfl, r⟩ := r1.one
    obtain ⟨a, vs, rfl, q1, q2⟩ := r.t_inv
    have hl := q2.len
    refine ⟨a, vs, rfl, .inr ⟨ex_t hid_ex q1, o _ (enD 0 ds) S1 M1 H1 p k1 s1 ⟨fun S2 M2 H2 s k i hi => ?_, fun S2 M2 H2 s k i x H3 hi y => ?_, fun S2 M2 H2 s k => ?_⟩⟩⟩
    · rw [enD_len] at hi
      exact ⟨vs, vs[i]'(by omega), ex_t (s.sub.trans hid_ex) q1, by simp [show i < vs.length by omega]⟩
    · obtain ⟨T, u, rfl, y1, rfl, y2⟩ := y
      obtain ⟨d, h1, h2⟩ := Reps.get' q2 (y2 vs (ex_t (s.sub.trans hid_ex) q1))
      refine ⟨k.ext (Ex.new y1), Stp.ext (Ex.new y1) k.dom, _, enD_get h1, ?_⟩
      rw [Nat.zero_add]
      exact rep_pair k y1 rep_i (h2.mono s.sub)
    · exact ⟨vs, ex_t (s.sub.trans hid_ex) q1, by rw [enD_len, hl]; exact Nat.le_refl _⟩
end
end Nf

set_option Elab.async false
set_option linter.all false
set_option maxRecDepth 100000
set_option maxHeartbeats 2000000
/-! list(reversed(list)). -/
namespace Nf
open PySem PySem.Spec PyProof.Rows L2 RT RZ
section
variable {prog : Program} {w : World} {A : Around} {E : Value → Shared → Prop} {s : Shared}
theorem extend_rev {R : Result → Shared → Prop} {it l : Addr} {items : Array Value} (hh : A.handled = none) (hit : s.heap.IsRevIter it l ((items.size : Int) - 1)) (hl : s.heap.IsList l items) (hne : l ≠ it) (hn : items.size ≤ sizeLine)
    (S : Addr) (hSi : S ≠ it) (hSl : S ≠ l) (c₀ : Nat) (hS : s.heap.get? S = some { cls := .type "list", data := .seq #[] c₀ })
    (hR : ∀ h' tk acc' c', (∀ b o, b ≠ S → b ≠ it → s.heap.get? b = some o → h'.get? b = some o) → h'.get? S = some { cls := .type "list", dict := none, data := .seq acc' c', slots := #[] } →
      ItemsOf (fun i v => items[items.size - 1 - i]? = some v) acc' items.size → R (.ok (.ret .none)) { s with heap := h', toks := tk }) :
    wpAny (model prog w) A.in1 (Builtin.List.listExtendWith (.ref S) (.ref it) .none)
      (fun fin s' => match fin with | .done f => R (.ok f) s' | .again c' => c'.quiet = true ∧ codeAny (model prog w) A c' R s') (fun e s' => R (.error e) s') s := by
  have W := (Walks.listRev (prog := prog) (w := w) (A := A.in1) hh it l hne items).toS
  have hSf : S ∉ [it, l] := by simp only [List.mem_cons, List.not_mem_nil, or_false, not_or]; exact ⟨hSi, hSl⟩
  have hT : s.TypeIs (.ref it) "list_reverseiterator" := Heap.IsRevIter.typeIs hit
  have h1 : Builtin.List.listSameRef (.ref S) (.ref it) = false := by simp [Builtin.List.listSameRef, hSi]
  unfold Builtin.List.listExtendWith
  refine wpAny_bind (wpAny_typeOf hT ?_)
  rw [if_neg (by rw [h1]; decide)]
  refine wpAny_bind (wpAny_pyIter_revIter hit ?_)
  refine wpAny_bind (wpAny_holding ?_)
  unfold Builtin.List.listLengthHint
  refine wpAny_bind (wpAny_specialOf hT nolen_lri ?_)
  show wpAny _ A.in1 (specialOf (Value.ref it) (Str.ofString "__length_hint__") >>= _) _ _ _
  refine wpAny_bind (wpAny_specialOf hT hint_lri ?_)
  generalize hid : ("list_reverseiterator.__length_hint__" : String) = id0
  wp_delta
  rw [show splitId id0 = some ("list_reverseiterator", "__length_hint__") from by subst hid; decide +kernel]
  subst hid
  refine wpAny_bind (wpAny_isInstance (b := true) hT (by rw [isSubtype_type]; kernel_rfl) ?_)
  refine wpAny_pure ?_
  rw [if_neg (by decide)]
  have e0 : ((items.size : Nat) : Int) - 1 - ((0 : Nat) : Int) = (items.size : Int) - 1 := by omega
  refine wpAny_pure ⟨plainId_quiet F.plain_extend_loop _, codeAny_extend_loopS W hn _ hSf _ items.size 0 _ #[] c₀ rfl (Nat.zero_le _) ⟨Nat.zero_le _, by rw [e0]; exact hit, hl⟩ hS (ItemsOf.nil _) fun s' acc' c' hm hS' hacc => ?_⟩
  rw [Moved.eq_with hm]
  refine hR s'.heap s'.toks acc' c' (fun b o hb hbi e => hm.heap b o (fun hmem => ?_) e) hS' hacc
  rcases List.mem_cons.mp hmem with e' | hmem
  · exact hb e'
  · exact hbi (List.mem_singleton.mp hmem)
theorem call_list_rev {Q : Value → Shared → Prop} {it l : Addr} {items : Array Value} (hh : A.handled = none) (hit : s.heap.IsRevIter it l ((items.size : Int) - 1)) (hl : s.heap.IsList l items) (hne : l ≠ it) (hn : items.size ≤ sizeLine)
    (hQ : ∀ h' tk acc' c', (∀ b o, b ≠ it → s.heap.get? b = some o → h'.get? b = some o) → h'.get? s.heap.objs.size = some { cls := .type "list", dict := none, data := .seq acc' c', slots := #[] } →
      ItemsOf (fun i v => items[items.size - 1 - i]? = some v) acc' items.size → Q (.ref s.heap.objs.size) { s with heap := h', toks := tk }) :
    wpAny (model prog w) A (call (.type "list") [.ref it]) Q E s := by
  refine callType_codes (Q₁ := fun obj s₁ => obj = .ref s.heap.objs.size ∧ s₁ = { s with heap := s.heap.push { cls := .type "list", data := .seq #[] } }) PySem.F.called_list (PySem.F.typeCall_list_1 _) PySem.F.entry_list_init
    (code_list_new _ ⟨rfl, rfl⟩) fun obj s₁ h₁ => ?_
  obtain ⟨rfl, rfl⟩ := h₁
  obtain ⟨oi, hoi, _⟩ := id hit
  obtain ⟨ol, hol, _⟩ := id hl
  have hSi : s.heap.objs.size ≠ it := Nat.ne_of_gt (Heap.lt_size hoi)
  have hSl : s.heap.objs.size ≠ l := Nat.ne_of_gt (Heap.lt_size hol)
  have hS : (s.heap.push { cls := .type "list", data := .seq #[] }).get? s.heap.objs.size = some { cls := .type "list", data := .seq #[] } := Heap.get?_push_size _ rfl
  refine ⟨⟨_, hS, rfl⟩, PySem.F.args_list_init_2 _ _, ?_⟩
  show wpAny _ _ (do let old ← Builtin.List.listItems (.ref s.heap.objs.size); Builtin.List.listUpdate (.ref s.heap.objs.size) (fun _ => #[]); letGo old.toList.reverse; Builtin.List.listExtendWith (.ref s.heap.objs.size) (.ref it) .none) _ _ _
  refine wpAny_bind ?_
  unfold Builtin.List.listItems
  refine wpAny_bind (wpAny_seqItems hS rfl (wpAny_pure ?_))
  show wpAny _ _ (updateSeq s.heap.objs.size (fun _ => #[]) >>= fun _ => letGo (#[] : Array Value).toList.reverse >>= fun _ => Builtin.List.listExtendWith (.ref s.heap.objs.size) (.ref it) .none) _ _ _
  refine wpAny_bind (wpAny_updateSeq hS rfl ?_)
  have hS₂ := Heap.get?_update_self (Obj.mapSeq (fun _ => (#[] : Array Value))) hS rfl
  have oth : ∀ b o, b ≠ s.heap.objs.size → s.heap.get? b = some o → ((s.heap.push { cls := .type "list", data := .seq #[] }).update s.heap.objs.size (Obj.mapSeq (fun _ => (#[] : Array Value)))).get? b = some o :=
    fun b o hb e => (Heap.get?_update_other _ _ (Ne.symm hb)).trans (Heap.get?_push_of_some _ e)
  refine wpAny_bind (wpAny_letGo ?_)
  refine extend_rev (A := A.in1) hh (hit.at fun o e => oth it o hSi.symm e) (hl.at fun o e => oth l o hSl.symm e) hne hn _ hSi hSl _ hS₂ fun h' tk acc' c' hk hS' hacc => ?_
  exact ⟨rfl, hQ h' tk acc' c' (fun b o hb e => hk b o (Nat.ne_of_lt (Heap.lt_size e)) hb (oth b o (Nat.ne_of_lt (Heap.lt_size e)) e)) hS' hacc⟩
end
section
variable {X : Cx}
def tLstRev (K : PySem.W.Frag) (te : TE) : TE := fun σ H Q => te σ H fun v H1 => ∃ (a : Addr) (xs : List V), v = .ref a ∧ SqL K H1 a xs ∧ ∀ q, H1 q = none → Q (.ref q) (upd H1 q (.lst xs.reverse))
theorem pe_lstRev {e : Expr} {te : TE} {p p2 pos pos2 : Pos} (hc : X.calm = true) (hg : Gl X "list") (hm : X.mg "list" = none) (hg2 : Gl X "reversed") (hm2 : X.mg "reversed" = none) (he : PE X e te)
    (hs : starEach [e] X.env = (false, eval e X.env) :: starEach [] X.env := by rfl)
    (hs2 : starEach [.Call (.Name "reversed" p2) [e] [] pos2] X.env = (false, eval (.Call (.Name "reversed" p2) [e] [] pos2) X.env) :: starEach [] X.env := by rfl) :
    PE X (.Call (.Name "list" p) [.Call (.Name "reversed" p2) [e] [] pos2] [] pos) (tLstRev X.K te) := by
  refine ⟨fun pins s σ H Q I h => ?_⟩
  refine Call_ (ld_blt I hg hm boot_list (PyProof.Rows.callWith_type1 (args_cons (Call_ (ld_blt I hg2 hm2 PyProof.Rows.boot_reversed (PyProof.Rows.callWith_type1 (args_cons (thn (he.run pins s σ H _ I h) fun u s1 ⟨v, H1, I1, r1, q1⟩ => args_nil ?_) hs) hs rfl))) hs2) hs2 rfl))
  obtain ⟨a, xs, ev, hq, q⟩ := q1
  subst ev
  obtain rfl : u = Value.ref a := r1
  obtain ⟨its, rv, p', hz⟩ := I1.list hq
  refine call_reversed_list p'.isList (args_nil ?_)
  have k0 : ∀ b o, s1.heap.get? b = some o → (s1.heap.push (revObj a ((its.toArray.size : Int) - 1))).get? b = some o := fun b o e => Heap.get?_push_of_some _ e
  have I2 : Inv X pins σ H1 { s1 with heap := s1.heap.push (revObj a ((its.toArray.size : Int) - 1)) } := I1.kept (t' := s1.toks) k0
  obtain ⟨f0, f1, f2, f3, f4, f5⟩ := I1.fpOk (H' := H1) (b := s1.heap.objs.size) (Nat.le_refl _) (I1.hok.fresh (Nat.le_refl _))
  have hl := p'.isList
  obtain ⟨ol, hol, _⟩ := id hl
  have hne : a ≠ s1.heap.objs.size := Nat.ne_of_lt (Heap.lt_size hol)
  have hn : its.toArray.size ≤ sizeLine := by rw [List.size_toArray, ← rv.length]; exact hz
  refine call_list_rev (s := { s1 with heap := s1.heap.push (revObj a ((its.toArray.size : Int) - 1)) }) (I1.ok.hd hc) ⟨_, Heap.get?_push_size _ rfl, rfl, rfl⟩ (hl.push _) hne hn fun h' tk acc c' hk he' hi => ?_
  have hz' : (s1.heap.push (revObj a ((its.toArray.size : Int) - 1))).objs.size = s1.heap.objs.size + 1 := Heap.size_push ..
  have ne1 : (s1.heap.push (revObj a ((its.toArray.size : Int) - 1))).objs.size ≠ s1.heap.objs.size := by rw [hz']; omega
  have fr2 : H1 (s1.heap.push (revObj a ((its.toArray.size : Int) - 1))).objs.size = none := I2.hok.fresh (Nat.le_refl _)
  have new : ObjOk X.prog X.w (upd H1 (s1.heap.push (revObj a ((its.toArray.size : Int) - 1))).objs.size (.lst xs.reverse)) h' (s1.heap.push (revObj a ((its.toArray.size : Int) - 1))).objs.size (.lst xs.reverse) :=
    ⟨by rw [List.length_reverse]; exact hz, acc.toList, c', vals_rev rv hi, by rw [Array.toArray_toList]; exact he'⟩
  have I3 : Inv X pins σ (upd H1 (s1.heap.push (revObj a ((its.toArray.size : Int) - 1))).objs.size (.lst xs.reverse)) { s1 with heap := h', toks := tk } :=
    I2.turnedNew (t' := tk) (ch := [s1.heap.objs.size]) (fun b o hb e => hk b o (fun z => hb (by simp [z])) e) (fun b hb => by
      have e : b = s1.heap.objs.size := by simpa using hb
      subst e
      exact ⟨f0, f1, f2, f3, f4, f5⟩) (Nat.le_refl _) new
  exact ⟨.ref _, _, I3, rfl, q _ fr2⟩
end
section
variable {K : PySem.W.Frag} {S : Sto} {sl : Sl} {P : PD} {te : TE}
theorem ev_lstRev (h : Ev K te sl S fun d S1 => ∃ ds, LV S1 d ds ∧ (P (.l ds.reverse) S1 ∨ ∀ p, S1 p = none → P (.a p) (S1.put p (.l ds.reverse)))) : Ev K (tLstRev K te) sl S P := fun M σ H hd Q o =>
  h M σ H hd _ fun d S1 M1 v H1 p1 k1 s1 r1 => by
    obtain ⟨ds, hv, hp⟩ := p1
    obtain ⟨a, vs, rfl, h2, h3⟩ := lv_run k1 r1 hv
    refine ⟨a, vs, rfl, h2, fun q hq => ?_⟩
    rcases hp with hp | hp
    · exact (o.after s1).grow hp k1 hq (rep_l (.inl (.inl (hid_new k1 hq))) (h3.reverse.mono (ex_new hq)))
    · exact (o.after s1).newL (hp q (k1.fresh hq).2) k1 hq h3.reverse
end
end Nf

set_option Elab.async false
set_option linter.all false
set_option maxRecDepth 100000
set_option maxHeartbeats 2000000
/-! max(list, default=d). -/
namespace Nf
open PySem PySem.Spec PyProof.Rows L2 RT RZ
open Mz (mx)
theorem args_max_default (a v : Value) : argsOk "max" ⟨[a], [(Str.ofString "default", v)]⟩ := by unfold argsOk; kernel_rfl
section
variable {prog : Program} {w : World} {A : Around} {R : Result → Shared → Prop} {I : Addr} {fp wr : List Addr} {n : Nat} {P : Nat → Value → Prop} {St : Nat → Heap → Prop} {dv : Value}
theorem mxd_loop (W : Walks prog w A.in1 I fp wr n P St) (bt : Nat → Nat → Bool) (hcmp : CmpOf prog w A.in1 .Gt P bt) (S : Addr) (hSf : S ∉ fp) :
    ∀ (k j : Nat) (s : Shared) (vb : Value) (c : Nat), n - (j + 1) = k → j + 1 ≤ n → St (j + 1) s.heap → P (argBest bt j) vb →
    s.heap.get? S = some { cls := .type "list", dict := none, data := .seq #[vb, vb] c, slots := #[] } →
    (∀ v h' tk, P (argBest bt (n - 1)) v → (∀ b o, b ∉ wr → b ≠ S → s.heap.get? b = some o → h'.get? b = some o) → R (.ok (.ret v)) { s with heap := h', toks := tk }) →
    codeAny (model prog w) A (.builtin "max.loop" ⟨[.ref I, .none, .ref S], [(Str.ofString "default", dv)]⟩) R s := by
  have hSw : S ∉ wr := fun h => hSf (W.sub _ h)
  have hname : (toString "max" ++ toString ".loop" : String) = "max.loop" := by decide
  intro k
  induction k with
  | zero =>
    intro j s vb c hk hj hst hPb hS hR
    have hin : j + 1 = n := by omega
    refine codeAny_builtin F.entry_max_loop ?_
    rw [Around.under_plainId F.plain_max_loop _]
    show wpAny _ A.in1 (seqItems? (.ref S) >>= _) _ _ s
    refine wpAny_bind (wpAny_seqItems hS rfl ?_)
    show wpAny _ A.in1 (tryCatch (pyNext (.ref I)) _ >>= _) _ _ s
    refine wpAny_bind (wpAny_tryCatch (W.done s _ _ (hin ▸ hst) fun h' tk hk' => ?_))
    have hS' := hk' S _ hSw hS
    show wpAny _ A.in1 (updateSeq S (fun _ => #[]) >>= _) _ _ _
    refine wpAny_bind ?_
    refine wpAny_updateSeq hS' rfl (wpAny_bind (wpAny_letGo (wpAny_pure ?_)))
    refine hR vb _ tk (by rw [← hin]; exact hPb) fun b o hbw hbS e => (Heap.get?_update_other _ _ (Ne.symm hbS)).trans (hk' b o hbw e)
  | succ k ih =>
    intro j s vb c hk hj hst hPb hS hR
    have hlt : j + 1 < n := by omega
    refine codeAny_builtin F.entry_max_loop ?_
    rw [Around.under_plainId F.plain_max_loop _]
    show wpAny _ A.in1 (seqItems? (.ref S) >>= _) _ _ s
    refine wpAny_bind (wpAny_seqItems hS rfl ?_)
    show wpAny _ A.in1 (tryCatch (pyNext (.ref I)) _ >>= _) _ _ s
    refine wpAny_bind (wpAny_tryCatch (W.item (j + 1) s _ _ hlt hst fun v h' tk hP hst' hk' => ?_))
    have hS' := hk' S _ hSw hS
    show wpAny _ A.in1 (tryCatch (holding [v, v] (richCompare .Gt v vb >>= _)) _ >>= _) _ _ _
    refine wpAny_bind (wpAny_tryCatch (wpAny_holding (wpAny_bind (hcmp (j + 1) (argBest bt j) v vb _ _ _ hP hPb ?_))))
    refine wpAny_bind (wpAny_holding (wpAny_truthy_bool ?_))
    refine wpAny_bind (wpAny_letGo (wpAny_pure ?_))
    cases hb : bt (j + 1) (argBest bt j) with
    | true =>
      simp only [if_true]
      refine wpAny_bind ?_
      refine wpAny_updateSeq hS' rfl (wpAny_bind (wpAny_letGo ?_))
      rw [hname]
      refine wpAny_pure ⟨plainId_quiet F.plain_max_loop _, ih (j + 1) _ v _ (by omega) hlt (W.frame _ _ _ hst' fun b hbf o e => ?_) (by simp only [argBest, hb, if_true]; exact hP) (Heap.get?_update_self _ hS' rfl)
        fun v' h'' tk'' hP' hk'' => ?_⟩
      · exact (Heap.get?_update_other _ _ (fun h : S = b => hSf (by rw [h]; exact hbf))).trans e
      · exact hR v' h'' tk'' hP' fun b o hbw hbS e => hk'' b o hbw hbS ((Heap.get?_update_other _ _ (Ne.symm hbS)).trans (hk' b o hbw e))
    | false =>
      simp only [Bool.false_eq_true, if_false]
      refine wpAny_bind (wpAny_letGo ?_)
      rw [hname]
      refine wpAny_pure ⟨plainId_quiet F.plain_max_loop _, ih (j + 1) _ vb c (by omega) hlt hst' (by simp only [argBest, hb, Bool.false_eq_true, if_false]; exact hPb) hS' fun v' h'' tk'' hP' hk'' => ?_⟩
      exact hR v' h'' tk'' hP' fun b o hbw hbS e => hk'' b o hbw hbS (hk' b o hbw e)
theorem mxd_first (W : Walks prog w A.in1 I fp wr n P St) (bt : Nat → Nat → Bool) (hcmp : CmpOf prog w A.in1 .Gt P bt) (S : Addr) (hSf : S ∉ fp) {s : Shared} {c : Nat} (hst : St 0 s.heap)
    (hS : s.heap.get? S = some { cls := .type "list", dict := none, data := .seq #[] c, slots := #[] })
    (h0 : n = 0 → ∀ h' tk, (∀ b o, b ∉ wr → s.heap.get? b = some o → h'.get? b = some o) → R (.ok (.ret dv)) { s with heap := h', toks := tk })
    (hR : 0 < n → ∀ v h' tk, P (argBest bt (n - 1)) v → (∀ b o, b ∉ wr → b ≠ S → s.heap.get? b = some o → h'.get? b = some o) → R (.ok (.ret v)) { s with heap := h', toks := tk }) :
    codeAny (model prog w) A (.builtin "max.loop" ⟨[.ref I, .none, .ref S], [(Str.ofString "default", dv)]⟩) R s := by
  have hSw : S ∉ wr := fun h => hSf (W.sub _ h)
  have hname : (toString "max" ++ toString ".loop" : String) = "max.loop" := by decide
  refine codeAny_builtin F.entry_max_loop ?_
  rw [Around.under_plainId F.plain_max_loop _]
  show wpAny _ A.in1 (seqItems? (.ref S) >>= _) _ _ s
  refine wpAny_bind (wpAny_seqItems hS rfl ?_)
  show wpAny _ A.in1 (tryCatch (pyNext (.ref I)) _ >>= _) _ _ s
  by_cases hn : 0 < n
  · refine wpAny_bind (wpAny_tryCatch (W.item 0 s _ _ hn hst fun v h' tk hP hst' hk' => ?_))
    have hS' := hk' S _ hSw hS
    show wpAny _ A.in1 (updateSeq S (fun _ => #[v, v]) >>= _) _ _ _
    refine wpAny_bind ?_
    refine wpAny_updateSeq hS' rfl ?_
    rw [hname]
    refine wpAny_pure ⟨plainId_quiet F.plain_max_loop _, mxd_loop W bt hcmp S hSf _ 0 _ v _ rfl hn (W.frame _ _ _ hst' fun b hbf o e => ?_) hP (Heap.get?_update_self _ hS' rfl) fun v' h'' tk'' hP' hk'' => ?_⟩
    · exact (Heap.get?_update_other _ _ (fun h : S = b => hSf (by rw [h]; exact hbf))).trans e
    · exact hR hn v' h'' tk'' hP' fun b o hbw hbS e => hk'' b o hbw hbS ((Heap.get?_update_other _ _ (Ne.symm hbS)).trans (hk' b o hbw e))
  · have e0 : n = 0 := by omega
    refine wpAny_bind (wpAny_tryCatch (W.done s _ _ (e0 ▸ hst) fun h' tk hk' => ?_))
    show wpAny _ A.in1 (rule _ >>= _) _ _ _
    refine wpAny_bind (wpAny_rule (wpAny_pure ?_))
    exact h0 e0 h' tk hk'
end
section
variable {prog : Program} {w : World} {A : Around} {E : Value → Shared → Prop} {s : Shared}
theorem call_max_default {l : Addr} {its : List Value} {ns : List Int} {dv : Value} {Q : Value → Shared → Prop} (hh : A.handled = none) (hl : s.heap.IsList l its.toArray) (hi : IntsAre its ns)
    (h0 : ns = [] → ∀ h' tk, (∀ b o, s.heap.get? b = some o → h'.get? b = some o) → Q dv { s with heap := h', toks := tk })
    (h : 0 < ns.length → ∀ h' tk M t', (∀ b o, s.heap.get? b = some o → h'.get? b = some o) → M ∈ ns → (∀ a, a ∈ ns → a ≤ M) → Q (.int M t') { s with heap := h', toks := tk }) :
    wpAny (model prog w) A (call (.builtin "max") [.ref l] [(Str.ofString "default", dv)]) Q E s := by
  have hname : (toString "max" ++ toString ".loop" : String) = "max.loop" := by decide
  obtain ⟨xs, e⟩ := hi.allInts.items
  have hn : numsOf (intItems xs).toList = ns := by rw [← e]; exact hi.numsOf
  rw [nums_intItems] at hn
  subst hn
  rw [e] at hl
  refine kmk_tree F.kind_max F.plain_max F.entry_max (args_max_default _ _) ?_
  show wpAny _ A.in1 (Builtin.Builtins.bindParams "max" ["key", "default"] 0 ⟨[], [(Str.ofString "default", dv)]⟩ >>= _) _ _ s
  refine wpAny_bind (wpAny_of_eq (show Builtin.Builtins.bindParams "max" ["key", "default"] 0 ⟨[], [(Str.ofString "default", dv)]⟩ = pure [none, some dv] from rfl) ?_)
  refine wpAny_bind (wpAny_pure ?_)
  refine wpAny_bind (iter_intList hl fun s₂ es st hfp hlI => ?_)
  subst es
  refine wpAny_bind (wpAny_newObj_type ?_)
  have hSf := fun hm => Nat.lt_irrefl _ (hfp (s.heap.push { cls := .type "list_iterator", data := .fields #[.ref l, .int 0 0] }).objs.size hm)
  have W := Walks.list (prog := prog) (w := w) (A := A.in1) hh s.heap.objs.size l hlI (intItems xs)
  have hsz : (intItems xs).size = xs.size := by simp [intItems]
  rw [hname]
  refine wpAny_pure ⟨plainId_quiet F.plain_max_loop _, mxd_first W _ (CmpOf.ints_gt (numAt xs) (fun _ _ => intItems_at)) _ hSf (W.frame _ _ _ st fun b _ o e => Heap.get?_push_of_some _ e) (Heap.get?_push_size _ rfl) (fun en h' tk hk => ?_) fun hp v h' tk hP hk => ?_⟩
  · have ex : (xs.toList.map (·.1)) = [] := by
      rw [hsz] at en
      have : xs = #[] := Array.size_eq_zero_iff.mp en
      subst this; rfl
    refine h0 ex h' tk fun b o e => hk b o (fun hm => ?_) (Heap.get?_push_of_some _ (Heap.get?_push_of_some _ e))
    exact absurd (Heap.lt_size e) (by rw [List.mem_singleton.mp hm]; exact Nat.lt_irrefl _)
  · rw [hsz] at hp hP
    obtain ⟨t, rfl⟩ := intItems_at hP
    obtain ⟨h1, h2⟩ := argBest_gt (numAt xs) (xs.size - 1)
    refine h (by rw [List.length_map, Array.length_toList]; exact hp) h' tk _ t (fun b o e => hk b o (fun hm => ?_) (fun z => ?_) (Heap.get?_push_of_some _ (Heap.get?_push_of_some _ e))) ?_ fun a ha => ?_
    · exact absurd (Heap.lt_size e) (by rw [List.mem_singleton.mp hm]; exact Nat.lt_irrefl _)
    · have hlt := Heap.lt_size e
      have hz2 : (s.heap.push { cls := .type "list_iterator", data := .fields #[.ref l, .int 0 0] }).objs.size = s.heap.objs.size + 1 := Heap.size_push ..
      have z' : b = (s.heap.push { cls := .type "list_iterator", data := .fields #[.ref l, .int 0 0] }).objs.size := z
      rw [z', hz2] at hlt
      exact absurd hlt (Nat.not_lt.mpr (Nat.le_succ _))
    · rw [numAt_eq]; exact PySem.getD_mem (by rw [List.length_map, Array.length_toList]; omega)
    · obtain ⟨j, hj, rfl⟩ := mem_getD ha
      rw [List.length_map, Array.length_toList] at hj
      rw [← numAt_eq]; exact h2 j (by omega)
end
theorem mx_ge : ∀ {ns : List Nat} {n : Nat}, n ∈ ns → n ≤ mx ns
  | m :: r, n, h => by
    unfold mx
    rcases List.mem_cons.mp h with rfl | h
    · omega
    · have := mx_ge h; omega
theorem mx_mem : ∀ {ns : List Nat}, ns ≠ [] → mx ns ∈ ns
  | [], h => absurd rfl h
  | [n], _ => by unfold mx mx; simp
  | n :: m :: r, _ => by
    have ih := mx_mem (ns := m :: r) (by simp)
    unfold mx
    by_cases e : n ≤ mx (m :: r)
    · rw [Nat.max_eq_right e]; exact List.mem_cons_of_mem _ ih
    · rw [Nat.max_eq_left (by omega)]; exact List.mem_cons_self
def rMaxD (K : PySem.W.Frag) : List V → List V → Hp → VK → Prop := fun vs zs H Q => ∃ (a : Addr) (ns : List Nat), vs = [V.ref a] ∧ zs = [V.int 0] ∧ SqL K H a (ns.map fun n : Nat => V.int (n : Int)) ∧ Q (.int (mx ns : Int)) H
theorem cr_maxD {X : Cx} (hc : X.calm = true) : CallRK X (.builtin "max") ["default"] (rMaxD X.K) := by
  intro pins s σ H xs zs us ws Q I r1 r2 h
  obtain ⟨a, ns, rfl, rfl, hs, q⟩ := h
  obtain ⟨its, rv, hl, _⟩ := I.list hs
  rw [Vals.ref1 r1]
  obtain ⟨d, rfl, rd⟩ := Vals.one r2
  obtain ⟨t0, rfl⟩ := rd
  have rv' : Vals ((ns.map fun n : Nat => ((n : Int))).map V.int) its := by
    rw [List.map_map]; exact rv
  refine call_max_default (I.ok.hd hc) hl.isList rv'.ints (fun e h' tk hk => ?_) (fun hp h' tk m t' hk h1 h2 => ?_)
  · have e' : ns = [] := List.map_eq_nil_iff.mp e
    subst e'
    exact ⟨.int 0, H, I.kept hk, ⟨_, rfl⟩, q⟩
  · obtain ⟨n, hn, rfl⟩ := List.mem_map.mp h1
    have e1 : mx ns = n := by
      have a1 := mx_ge hn
      have a2 := h2 (mx ns : Int) (List.mem_map.mpr ⟨mx ns, mx_mem (List.ne_nil_of_mem hn), rfl⟩)
      omega
    rw [e1] at q
    exact ⟨.int (n : Int), H, I.kept hk, ⟨_, rfl⟩, q⟩
section
variable {K : PySem.W.Frag} {S : Sto} {sl : Sl} {P : PD} {tr tk : TA}
theorem reps_nats {H : Hp} : ∀ {ns : List Nat} {vs : List V}, Reps K H (ns.map fun n : Nat => Dt.i (n : Int)) vs → vs = ns.map fun n : Nat => V.int (n : Int)
  | [], _, h => h.nil_inv
  | n :: ns, _, h => by
    obtain ⟨v, r, rfl, h1, h2⟩ := Reps.cons_inv (d := Dt.i (n : Int)) (ds := ns.map fun n : Nat => Dt.i (n : Int)) h
    rw [h1.int_inv, reps_nats h2]; rfl
theorem ev_maxD (h : EvA K tr sl S fun xs S1 => ∃ x, xs = [x] ∧ EvA K tk sl S1 fun ys S2 => ∃ ns : List Nat, ys = [.i 0] ∧ LV S2 x (ns.map fun n : Nat => Dt.i (n : Int)) ∧ P (.i (mx ns : Int)) S2) : Ev K (tCKw (rMaxD K) tr tk) sl S P := fun M σ H hd Q o =>
  h M σ H hd _ fun xs S1 M1 vs H1 p1 k1 s1 r1 => by
    obtain ⟨x, rfl, p1⟩ := p1
    refine p1 M1 σ H1 (hd.step k1 s1) _ fun ys S2 M2 ws H2 p2 k2 s2 r2 => ?_
    obtain ⟨ns, rfl, hv, hp⟩ := p2
    obtain ⟨v, rfl, rx⟩ := r1.one
    obtain ⟨w, rfl, ry⟩ := r2.one
    obtain ⟨a, us, rfl, h2, h3⟩ := lv_run k2 (rx.mono s2.sub) hv
    rw [reps_nats h3] at h2
    exact ⟨a, ns, rfl, by rw [ry.int_inv], h2, ((o.after s1).after s2).at hp k2 rep_i⟩
end
end Nf

set_option Elab.async false
set_option linter.all false
set_option maxRecDepth 100000
set_option maxHeartbeats 2000000
/-! The operators by what comes; the walked by what comes. -/
namespace Nf
open PySem PySem.Spec PyProof.Rows L2 RT RZ
open Mz (en)
def rOr (r r' : R2) : R2 := fun x y H Q => r x y H Q ∨ r' x y H Q
abbrev rAdd : R2 := rI0 fun i j => .int (i + j)
def rAddA (K : PySem.W.Frag) : R2 := rOr rAdd (rOr rCat (rCatA K))
abbrev rMulS : R2 := rI CMul fun i j => .int (i * j)
abbrev rMulW : R2 := rI CMulW fun i j => .int (i * j)
def rMulA : R2 := rOr rMulS (rOr rMulW rRep)
def rEqA (K : PySem.W.Frag) : R2 := rOr rEq (rEqD K)
def rNeA (K : PySem.W.Frag) : R2 := rOr rNe (rNeD K)
section
variable {X : Cx} {tg l : Expr} {tl : TE}
theorem op_addA : OpR X (binaryOp .Add) (rAddA X.K) := op_add.or (op_cat.or op_catA)
theorem op_mulA : OpR X (binaryOp .Mult) rMulA := op_mul.or (op_mulW.or op_rep)
theorem op_eqA (hu : X.A.units + 64 < cLine) : OpR X (compareOp .Eq) (rEqA X.K) := op_eq.or (op_eqD hu)
theorem op_neA (hu : X.A.units + 64 < cLine) : OpR X (compareOp .NotEq) (rNeA X.K) := op_ne.or (op_neD hu)
def iSeq (K : PySem.W.Frag) (tl : TE) : TI := fun σ H R => tl σ H fun x H1 => ∃ a, x = .ref a ∧ (((∃ xs, SqL K H1 a xs) ∧ R (Itl K a) H1) ∨ ((∃ xs, SqT K H1 a xs) ∧ R (Itt K a) H1))
theorem pi_seq (hl : PE X l tl) : PI X tg l (iSeq X.K tl) := by
  refine ⟨fun pins s σ H R I h => ?_⟩
  refine thn (hl.run pins s σ H _ I h) fun v s1 ⟨x, H1, I1, r1, q1⟩ => ?_
  obtain ⟨a, e, q⟩ := q1
  subst e
  cases r1
  rcases q with ⟨⟨xs, hq⟩, q⟩ | ⟨⟨xs, hq⟩, q⟩
  · obtain ⟨its, rv, p, hz⟩ := I1.list hq
    refine wpAny_pyIter_list p.isList ?_
    refine ⟨s1.heap.objs.size, [s1.heap.objs.size], _, _, H1, rfl, I1.kept (t' := s1.toks) fun b o e => Heap.get?_push_of_some _ e, turn_list a _, ⟨_, Heap.get?_push_size _ rfl, rfl, rfl⟩, fun b hb => ?_, q⟩
    have e : b = s1.heap.objs.size := by simpa using hb
    subst e
    exact I1.fpOk (Nat.le_refl _) (I1.hok.fresh (Nat.le_refl _))
  · obtain ⟨its, rv, p, hz⟩ := I1.tuple hq
    refine wpAny_pyIter_tuple (show s1.heap.IsTuple a its.toArray from p) ?_
    refine ⟨s1.heap.objs.size, [s1.heap.objs.size], _, _, H1, rfl, I1.kept (t' := s1.toks) fun b o e => Heap.get?_push_of_some _ e, turn_tuple a _, ⟨_, Heap.get?_push_size _ rfl, rfl, rfl⟩, fun b hb => ?_, q⟩
    have e : b = s1.heap.objs.size := by simpa using hb
    subst e
    exact I1.fpOk (Nat.le_refl _) (I1.hok.fresh (Nat.le_refl _))
end
section
variable {K : PySem.W.Frag} {S : Sto} {sl : Sl} {P : PD} {x y : Dt} {te : TE} {P' : List Dt → Sto → Prop}
theorem rv_add {a b : Int} (p : P (.i (a + b)) S) : Rv K (rAddA K) (.i a) (.i b) S P := Rv.orL (rv_int p)
theorem rv_addL {ds es : List Dt} (h1 : ∃ p, x = .a p ∧ S p = some (.l ds)) (h2 : ∃ p, y = .a p ∧ S p = some (.l es)) (hz : ds.length + es.length ≤ 100000) (p : P (.l (ds ++ es)) S ∨ ∀ p, S p = none → P (.a p) (S.put p (.l (ds ++ es)))) : Rv K (rAddA K) x y S P :=
  Rv.orR (Rv.orL (rv_cat h1 h2 hz p))
theorem rv_addT {ds es : List Dt} (hz : ds.length + es.length ≤ 100000) (p : P (.t (ds ++ es)) S) : Rv K (rAddA K) (.t ds) (.t es) S P := Rv.orR (Rv.orR (rv_catT hz p))
theorem rv_sub {a b : Int} (p : P (.i (a - b)) S) : Rv K (rI0 fun i j => .int (i - j)) (.i a) (.i b) S P := rv_int p
theorem rv_mulS {a b : Int} (c : CMul a b) (p : P (.i (a * b)) S) : Rv K rMulA (.i a) (.i b) S P := Rv.orL (rv_intC c p)
theorem rv_mulW {a b : Int} (c : CMulW a b) (p : P (.i (a * b)) S) : Rv K rMulA (.i a) (.i b) S P := Rv.orR (Rv.orL (rv_intC c p))
theorem rv_mulL {ds : List Dt} {n : Nat} (h1 : ∃ p, x = .a p ∧ S p = some (.l ds)) (hz : ds.length * n ≤ 100000) (hn : n ≤ 100000) (p : P (.l (List.replicate n ds).flatten) S ∨ ∀ p, S p = none → P (.a p) (S.put p (.l (List.replicate n ds).flatten))) : Rv K rMulA x (.i (n : Int)) S P :=
  Rv.orR (Rv.orR (rv_rep h1 hz hn p))
theorem rv_mod {a b : Int} (c : 0 < b) (p : P (.i (a % b)) S) : Rv K (rI (fun _ j => 0 < j) fun i j => .int (i % j)) (.i a) (.i b) S P := rv_intC c p
theorem rv_fdiv {a b : Int} (c : 0 < b ∧ b < 1073741824) (p : P (.i (a / b)) S) : Rv K (rI CDiv fun i j => .int (i / j)) (.i a) (.i b) S P := rv_intC c p
theorem rv_eq {a b : Int} (p : P (.b (decide (a = b))) S) : Rv K (rEqA K) (.i a) (.i b) S P := Rv.orL (rv_eqI p)
theorem rv_ne {a b : Int} (p : P (.b (!decide (a = b))) S) : Rv K (rNeA K) (.i a) (.i b) S P := Rv.orL (rv_neI p)
theorem rv_eqs {a b : Str} (p : P (.b (decide (a = b))) S) : Rv K (rEqA K) (.s a) (.s b) S P := Rv.orL (rv_eqS p)
theorem rv_nes {a b : Str} (p : P (.b (!decide (a = b))) S) : Rv K (rNeA K) (.s a) (.s b) S P := Rv.orL (rv_neS p)
theorem rv_eqd {n m : Nat} (h1 : Pl n x) (h2 : Pl m y) (hn : n ≤ 64) (hm : m ≤ 64) (p : x = y → P (.b true) S) (q : x ≠ y → P (.b false) S) : Rv K (rEqA K) x y S P := Rv.orR (rv_eqD h1 h2 hn hm p q)
theorem rv_ned {n m : Nat} (h1 : Pl n x) (h2 : Pl m y) (hn : n ≤ 64) (hm : m ≤ 64) (p : x = y → P (.b false) S) (q : x ≠ y → P (.b true) S) : Rv K (rNeA K) x y S P := Rv.orR (rv_neD h1 h2 hn hm p q)
theorem rv_nel {n : Nat} {ds es : List Dt} (h : LV S x ds) (h1 : Pls n ds) (h2 : Pls n es) (hn : n ≤ 63) (p : ds = es → P (.b false) S) (q : ds ≠ es → P (.b true) S) : Rv K (rNeA K) x (.l es) S P := Rv.orR (rv_neL h h1 h2 hn p q)
theorem rv_lt {a b : Int} (p : P (.b (decide (a < b))) S) : Rv K (rI0 fun i j => .bl (decide (i < j))) (.i a) (.i b) S P := rv_cmp (f := fun i j => decide (i < j)) p
theorem rv_le {a b : Int} (p : P (.b (decide (a ≤ b))) S) : Rv K (rI0 fun i j => .bl (decide (i ≤ j))) (.i a) (.i b) S P := rv_cmp (f := fun i j => decide (i ≤ j)) p
theorem rv_gt {a b : Int} (p : P (.b (decide (b < a))) S) : Rv K (rI0 fun i j => .bl (decide (j < i))) (.i a) (.i b) S P := rv_cmp (f := fun i j => decide (j < i)) p
theorem rv_ge {a b : Int} (p : P (.b (decide (b ≤ a))) S) : Rv K (rI0 fun i j => .bl (decide (j ≤ i))) (.i a) (.i b) S P := rv_cmp (f := fun i j => decide (j ≤ i)) p
theorem ei_seq (h : Ev K te sl S fun d S1 => ∃ ds, (d = .t ds ∨ d = .l ds) ∧ P' ds S1) : EvI K (iSeq K te) sl S P' := fun M σ H hd R o => by
  refine h M σ H hd _ fun d S1 M1 v H1 p1 k1 s1 r1 => ?_
  obtain ⟨ds, e, p⟩ := p1
  rcases e with rfl | rfl
  · obtain ⟨a, vs, rfl, q1, q2⟩ := r1.t_inv
    refine ⟨a, rfl, .inr ⟨⟨vs, ex_t hid_ex q1⟩, o _ ds S1 M1 H1 p k1 s1 ⟨fun S2 M2 H2 s k i hi => ?_, fun S2 M2 H2 s k i x H3 hi y => ?_, fun S2 M2 H2 s k => ?_⟩⟩⟩
    · have hl := q2.len
      exact ⟨vs, vs[i]'(by omega), ex_t (s.sub.trans hid_ex) q1, by simp [show i < vs.length by omega]⟩
    · obtain ⟨rfl, y⟩ := y
      obtain ⟨d, h1, h2⟩ := Reps.get' q2 (y vs (ex_t (s.sub.trans hid_ex) q1))
      exact ⟨k, Stp.refl _ _ _, d, h1, h2.mono s.sub⟩
    · exact ⟨vs, ex_t (s.sub.trans hid_ex) q1, by rw [q2.len]; exact Nat.le_refl _⟩
  · obtain ⟨a, vs, rfl, q1, q2⟩ := r1.l_inv
    refine ⟨a, rfl, .inl ⟨⟨vs, ex_l hid_ex q1⟩, o _ ds S1 M1 H1 p k1 s1 ⟨fun S2 M2 H2 s k i hi => ?_, fun S2 M2 H2 s k i x H3 hi y => ?_, fun S2 M2 H2 s k => ?_⟩⟩⟩
    · have hl := q2.len
      exact ⟨vs, vs[i]'(by omega), ex_l (s.sub.trans hid_ex) q1, by simp [show i < vs.length by omega]⟩
    · obtain ⟨rfl, y⟩ := y
      obtain ⟨d, h1, h2⟩ := Reps.get' q2 (y vs (ex_l (s.sub.trans hid_ex) q1))
      exact ⟨k, Stp.refl _ _ _, d, h1, h2.mono s.sub⟩
    · exact ⟨vs, ex_l (s.sub.trans hid_ex) q1, by rw [q2.len]; exact Nat.le_refl _⟩
theorem ev_isi {T : String} {ta : TE} (h : Ev K ta sl S fun d S1 => ∃ (n : String) (c : Bool), tyD d = some n ∧ kitB n T = some c ∧ P (.b c) S1) : Ev K (tCB (rIsi K) (tCons ta (tCons (tC (.ty T)) tNil))) sl S P := fun M σ H hd Q o =>
  h M σ H hd _ fun d S1 M1 v H1 p1 k1 s1 r1 => by
    obtain ⟨n, c, e1, e2, e3⟩ := p1
    exact rc_isi e1 e2 e3 M1 H1 _ k1 ⟨v, rfl, r1⟩ Q (o.after s1)
end
/-! ### comprehensions and loops over what is told by a list -/
section
variable {K : PySem.W.Frag} {S : Sto} {sl : Sl} {P : PD} {N : NX} {R : PD} {te : TE} {tu : TS} {wi : TI} {g : TG} {js : List Nat} {un : Dt → List Dt → Prop} {α : Type}
/-- [te for g in wi], nothing of the store changes: the list of f x -/
theorem ev_lc {vs : List Nat} (tg : Tg K g js un) (hv : ∀ j ∈ js, j ∈ vs) (h : EvI K wi sl S fun ds S1 => ∃ (xs : List α) (enc f : α → Dt), ds = xs.map enc ∧ xs.length ≤ 100000 ∧
      (∀ x ∈ xs, ∃ es, un (enc x) es ∧ Ev K te (setA (wipeE sl vs) js es) S1 fun y S2 => y = f x ∧ S2 = S1) ∧ (P (.l (xs.map f)) S1 ∨ ∀ p, S1 p = none → P (.a p) (S1.put p (.l (xs.map f))))) : Ev K (tLc wi g tYes te vs) sl S P := by
  refine lc_gen tg hv fun M σ H hd R o => h M σ H hd R fun J ds S' M' H' p k s y => o J ds S' M' H' ?_ k s y
  obtain ⟨xs, enc, f, rfl, hl, hs, hp⟩ := p
  refine ⟨fun rest acc S2 => S2 = S' ∧ ∃ ys zs, xs = ys ++ zs ∧ rest = zs.map enc ∧ acc = ys.map f, ⟨rfl, [], xs, rfl, rfl, rfl⟩, fun d r acc S2 i => ?_, fun acc S2 i => ?_⟩
  · obtain ⟨rfl, ys, zs, e1, e2, rfl⟩ := i
    cases zs with
    | nil => cases e2
    | cons z zs =>
      cases e2
      obtain ⟨es, hu, w⟩ := hs z (by rw [e1]; simp)
      refine ⟨by rw [List.length_map]; rw [e1, List.length_append] at hl; omega, es, hu, et_yes ⟨fun _ => w.mono fun d S3 q => ?_, fun z => nomatch z⟩⟩
      obtain ⟨rfl, rfl⟩ := q
      exact ⟨rfl, ys ++ [z], zs, by rw [e1]; simp, rfl, by simp⟩
  · obtain ⟨rfl, ys, zs, e1, e2, rfl⟩ := i
    have : zs = [] := List.map_eq_nil_iff.mp e2.symm
    subst this
    rw [List.append_nil] at e1
    subst e1
    exact hp
/-- for over what is told by a list, I by what is left -/
theorem wp_forM (tg : Tg K g js un) (h : EvI K wi sl S fun ds S1 => ∃ (xs : List α) (enc : α → Dt) (I : List α → NX), ds = xs.map enc ∧ I xs sl S1 ∧ (∀ x r sl2 S2, x ∈ xs → I (x :: r) sl2 S2 → ∃ es, un (enc x) es ∧ WP K tu (setA sl2 js es) S2 (I r) R) ∧ (∀ sl2 S2, I [] sl2 S2 → N sl2 S2)) :
    WP K (tFor wi g tu) sl S N R := by
  refine wp_for tg fun M σ H hd R o => h M σ H hd R fun J ds S' M' H' p k s y => o J ds S' M' H' ?_ k s y
  obtain ⟨xs, enc, I, rfl, i0, is, id⟩ := p
  refine ⟨fun rest sl2 S2 => ∃ zs, (∀ z ∈ zs, z ∈ xs) ∧ rest = zs.map enc ∧ I zs sl2 S2, ⟨xs, fun z h => h, rfl, i0⟩, fun d r sl2 S2 i => ?_, fun sl2 S2 i => ?_⟩
  · obtain ⟨zs, hz, e, i⟩ := i
    cases zs with
    | nil => cases e
    | cons z zs =>
      cases e
      obtain ⟨es, hu, w⟩ := is z zs sl2 S2 (hz z List.mem_cons_self) i
      exact ⟨es, hu, w.mono (fun sl3 S3 q => ⟨zs, fun z' h => hz z' (List.mem_cons_of_mem _ h), rfl, q⟩) fun _ _ q => q⟩
  · obtain ⟨zs, hz, e, i⟩ := i
    have : zs = [] := List.map_eq_nil_iff.mp e.symm
    subst this
    exact id sl2 S2 i
end
/-- the numbers of a range, as ints -/
def rng (lo c : Int) (n : Nat) : List Int := (List.range n).map fun i : Nat => lo + (i : Int) * c
theorem rgD_map {lo c : Int} {n : Nat} : rgD lo c n = (rng lo c n).map Dt.i := by
  unfold rgD rng
  rw [List.map_map]; rfl
theorem enD_map {α : Type} {f : α → Dt} : ∀ {k : Nat} {xs : List α}, enD k (xs.map f) = (en k xs).map fun q => Dt.t [.i (q.1 : Int), f q.2]
  | _, [] => rfl
  | k, x :: xs => by
    rw [List.map_cons]
    unfold enD en
    rw [List.map_cons, enD_map]
theorem zpD_map {α β : Type} {f : α → Dt} {g : β → Dt} : ∀ {xs : List α} {ys : List β}, zpD (xs.map f) (ys.map g) = (xs.zip ys).map fun q => Dt.t [f q.1, g q.2]
  | [], _ => by simp [zpD]
  | _ :: _, [] => by simp [zpD]
  | x :: xs, y :: ys => by
    rw [List.map_cons, List.map_cons, List.zip_cons_cons, List.map_cons]
    unfold zpD
    rw [zpD_map]
/-- polys, polys of two letters, as data -/
def tI (f : List Int) : Dt := .t (f.map Dt.i)
def tP (P : List (List Int)) : Dt := .t (P.map tI)
def lI (f : List Int) : Dt := .l (f.map Dt.i)
def lL (P : List (List Int)) : Dt := .l (P.map lI)
def lT (P : List (List Int)) : Dt := .l (P.map tI)
theorem pl_i {k : Int} {n : Nat} : Pl n (.i k) := by unfold Pl; trivial
theorem pls_i {f : List Int} {n : Nat} : Pls n (f.map Dt.i) := pls_of fun d hd => by
  obtain ⟨k, _, rfl⟩ := List.mem_map.mp hd
  exact pl_i
theorem pl_tI {f : List Int} : Pl 1 (tI f) := by unfold tI Pl; exact pls_i
theorem pl_lI {f : List Int} : Pl 1 (lI f) := by unfold lI Pl; exact pls_i
theorem pls_tI {P : List (List Int)} : Pls 1 (P.map tI) := pls_of fun d hd => by
  obtain ⟨k, _, rfl⟩ := List.mem_map.mp hd
  exact pl_tI
theorem pl_tP {P : List (List Int)} : Pl 2 (tP P) := by unfold tP Pl; exact pls_tI
theorem pl_nilT {n : Nat} : Pl (n + 1) (.t []) := by unfold Pl Pls; trivial
theorem tI_inj {f g : List Int} (h : tI f = tI g) : f = g := by
  unfold tI at h
  have h2 := Dt.t.inj h
  exact List.map_inj_right (fun _ _ q => Dt.i.inj q) |>.mp h2
theorem tP_inj {f g : List (List Int)} (h : tP f = tP g) : f = g := by
  unfold tP at h
  have h2 := Dt.t.inj h
  exact List.map_inj_right (fun _ _ q => tI_inj q) |>.mp h2
end Nf

set_option Elab.async false
set_option linter.all false
set_option maxRecDepth 100000
set_option maxHeartbeats 2000000
namespace Nf
open PySem PySem.Spec PyProof.Rows L2 RT RZ
open Mz (en)
theorem ex_b {c : Bool} {P : Bool → Prop} (h : P c) : ∃ c', Dt.b c = .b c' ∧ P c' := ⟨c, rfl, h⟩
theorem ex_bb {c : Bool} {A B : Bool → Prop} (h1 : A c) (h2 : B c) : ∃ c', Dt.b c = .b c' ∧ A c' ∧ B c' := ⟨c, rfl, h1, h2⟩
theorem ex_seqT {ds : List Dt} {P : List Dt → Prop} (h : P ds) : ∃ ds', (Dt.t ds = .t ds' ∨ Dt.t ds = .l ds') ∧ P ds' := ⟨ds, .inl rfl, h⟩
theorem ex_seqL {ds : List Dt} {P : List Dt → Prop} (h : P ds) : ∃ ds', (Dt.l ds = .t ds' ∨ Dt.l ds = .l ds') ∧ P ds' := ⟨ds, .inr rfl, h⟩
theorem ff2 {A B : Prop} (h : B) : (false = true → A) ∧ (false = false → B) := ⟨fun z => (nomatch z), fun _ => h⟩
theorem tt2 {A B : Prop} (h : A) : (true = true → A) ∧ (true = false → B) := ⟨fun _ => h, fun z => (nomatch z)⟩
theorem ff3 {A B : Prop} (h : A) : (false = false → A) ∧ (false = true → B) := ⟨fun _ => h, fun z => (nomatch z)⟩
theorem tt3 {A B : Prop} (h : B) : (true = false → A) ∧ (true = true → B) := ⟨fun z => (nomatch z), fun _ => h⟩
theorem exb_tf {A : Prop} {B : Bool → Prop} (h : A) : ∃ c', Dt.b true = .b c' ∧ (c' = true → A) ∧ (c' = false → B c') := ⟨true, rfl, fun _ => h, fun z => (nomatch z)⟩
theorem co_at {f : List Int} {k : Nat} (h : k < f.length) : (f.map Dt.i)[k]? = some (.i (Mz.co f k)) := by
  rw [List.getElem?_map, List.getElem?_eq_getElem h]
  unfold Mz.co
  rw [List.getD_eq_getElem?_getD, List.getElem?_eq_getElem h]; rfl
theorem co_out {f : List Int} {k : Nat} (h : ¬ k < f.length) : Mz.co f k = 0 := by
  unfold Mz.co
  rw [List.getD_eq_getElem?_getD, List.getElem?_eq_none (by omega)]; rfl
theorem row_at {α : Type} {enc : List Int → Dt} {P : List (List Int)} {k : Nat} (h : k < P.length) : (P.map enc)[k]? = some (enc (Mz.rowM P k)) := by
  rw [List.getElem?_map, List.getElem?_eq_getElem h]
  unfold Mz.rowM
  rw [List.getD_eq_getElem?_getD, List.getElem?_eq_getElem h]; rfl
theorem row_out {P : List (List Int)} {k : Nat} (h : ¬ k < P.length) : Mz.rowM P k = [] := by
  unfold Mz.rowM
  rw [List.getD_eq_getElem?_getD, List.getElem?_eq_none (by omega)]; rfl
theorem isi_ii : kitB "int" "int" = some true := by decide +kernel
theorem isi_ib : kitB "int" "bool" = some false := by decide +kernel
theorem isi_tt : kitB "tuple" "tuple" = some true := by decide +kernel
theorem isi_ss : kitB "str" "str" = some true := by decide +kernel
theorem rgD01 {n : Nat} : rgD 0 1 n = (List.range n).map fun k : Nat => Dt.i (k : Int) := by
  unfold rgD
  apply List.map_congr_left
  intro k _
  rw [Int.mul_one, Int.zero_add]
theorem trm_snoc {α : Type} {z : α → Bool} {l : List α} {x : α} : Mz.trm z (l ++ [x]) = if z x = true then Mz.trm z l else l ++ [x] := by
  unfold Mz.trm
  rw [List.reverse_append, List.reverse_singleton, List.singleton_append, List.dropWhile_cons]
  by_cases h : z x = true
  · rw [if_pos h, if_pos h]
  · rw [if_neg h, if_neg h, List.reverse_cons, List.reverse_reverse]
theorem trm_len {α : Type} {z : α → Bool} {l : List α} : (Mz.trm z l).length ≤ l.length := by
  unfold Mz.trm
  rw [List.length_reverse]
  have h := (List.dropWhile_sublist (p := z) (l := l.reverse)).length_le
  rw [List.length_reverse] at h
  exact h
theorem trm_last {α : Type} {z : α → Bool} {l : List α} {x : α} (h : Mz.trm z (l ++ [x]) = l ++ [x]) : z x = false := by
  cases e : z x with
  | false => rfl
  | true =>
    rw [trm_snoc, if_pos e] at h
    have h2 := trm_len (z := z) (l := l)
    rw [h, List.length_append, List.length_singleton] at h2
    omega
theorem snoc_of {α : Type} {l : List α} (h : l ≠ []) : ∃ (i : List α) (x : α), l = i ++ [x] := ⟨l.dropLast, l.getLast h, (List.dropLast_concat_getLast h).symm⟩
theorem map_snoc {α β : Type} {f : α → β} {l : List α} {x : α} : (l ++ [x]).map f = l.map f ++ [f x] := by simp
/-- rests; canonical: no nought at the end -/
def Red (m : Int) (f : List Int) : Prop := ∀ c ∈ f, 0 ≤ c ∧ c < m
def Cn (m : Int) (f : List Int) : Prop := Red m f ∧ Mz.trm Mz.isZ f = f
def Cn2 (m : Int) (P : List (List Int)) : Prop := (∀ r ∈ P, Cn m r) ∧ Mz.trm List.isEmpty P = P
def Sz (n : Nat) (P : List (List Int)) : Prop := P.length ≤ n ∧ ∀ r ∈ P, r.length ≤ n
theorem Sz.row {n : Nat} {P : List (List Int)} (h : Sz n P) (i : Nat) : (Mz.rowM P i).length ≤ n := by
  by_cases hi : i < P.length
  · unfold Mz.rowM
    rw [List.getD_eq_getElem?_getD, List.getElem?_eq_getElem hi]
    exact h.2 _ (List.getElem_mem hi)
  · rw [row_out hi]; exact Nat.zero_le _
theorem Sz.mono {n k : Nat} {P : List (List Int)} (h : Sz n P) (e : n ≤ k) : Sz k P := ⟨Nat.le_trans h.1 e, fun r hr => Nat.le_trans (h.2 r hr) e⟩
theorem Red.at {m : Int} {f : List Int} (h : Red m f) {k : Nat} (hk : k < f.length) : 0 ≤ Mz.co f k ∧ Mz.co f k < m := by
  unfold Mz.co
  rw [List.getD_eq_getElem?_getD, List.getElem?_eq_getElem hk]
  exact h _ (List.getElem_mem hk)
theorem co_set {f : List Int} {k : Nat} {x : Int} : ((f.map Dt.i).set k (.i x)) = (f.set k x).map Dt.i := by rw [List.map_set]
/-! loops and comprehensions over range(n) -/
section
variable {K : PySem.W.Frag} {S : Sto} {sl : Sl} {P : PD} {N : NX} {R : PD} {te : TE} {tu : TS} {tr : TA} {j : Nat}
theorem ev_lcN {vs : List Nat} (hv : j ∈ vs) (h : EvA K tr sl S fun ds S1 => ∃ (n : Nat) (f : Nat → Dt), ds = [.i (n : Int)] ∧ n ≤ 100000 ∧
    (∀ k, k < n → Ev K te (setE (wipeE sl vs) j (.i (k : Int))) S1 fun y S2 => y = f k ∧ S2 = S1) ∧ (P (.l ((List.range n).map f)) S1 ∨ ∀ p, S1 p = none → P (.a p) (S1.put p (.l ((List.range n).map f))))) :
    Ev K (tLc (iRng1 tr) (gName j) tYes te vs) sl S P := by
  refine ev_lc (α := Nat) tg_name (fun i hi => by rw [List.mem_singleton.mp hi]; exact hv) (ei_rng1 fun M σ H hd Q o => h M σ H hd Q fun ds S' M' vs' H' p k s r => o ds S' M' vs' H' ?_ k s r)
  obtain ⟨n, f, rfl, hn, hs, hp⟩ := p
  exact ⟨n, rfl, hn, List.range n, fun k : Nat => Dt.i (k : Int), f, rgD01, by rw [List.length_range]; exact hn, fun k hk => ⟨_, rfl, hs k (List.mem_range.mp hk)⟩, hp⟩
theorem wp_forN (h : EvA K tr sl S fun ds S1 => ∃ (n : Nat) (I : List Nat → NX), ds = [.i (n : Int)] ∧ n ≤ 100000 ∧ I (List.range n) sl S1 ∧
    (∀ k r sl2 S2, k < n → I (k :: r) sl2 S2 → WP K tu (setE sl2 j (.i (k : Int))) S2 (I r) R) ∧ (∀ sl2 S2, I [] sl2 S2 → N sl2 S2)) : WP K (tFor (iRng1 tr) (gName j) tu) sl S N R := by
  refine wp_forM (α := Nat) tg_name (ei_rng1 fun M σ H hd Q o => h M σ H hd Q fun ds S' M' vs' H' p k s r => o ds S' M' vs' H' ?_ k s r)
  obtain ⟨n, I, rfl, hn, i0, is, id⟩ := p
  exact ⟨n, rfl, hn, List.range n, fun k : Nat => Dt.i (k : Int), I, rgD01, i0, fun k r sl2 S2 hk i => ⟨_, rfl, is k r sl2 S2 (List.mem_range.mp hk) i⟩, id⟩
end
end Nf

set_option Elab.async false
set_option linter.all false
set_option maxRecDepth 100000
set_option maxHeartbeats 2000000
/-! The rules with the written part's name said. -/
namespace Nf
open PySem PySem.Spec PyProof.Rows L2 RT RZ
section
variable {X : Cx} (K : PySem.W.Frag)
theorem k_add (h : X.K = K := by rfl) : OpR X (binaryOp .Add) (rAddA K) := h ▸ op_addA
theorem k_eq (hu : X.A.units + 64 < cLine) (h : X.K = K := by rfl) : OpR X (compareOp .Eq) (rEqA K) := h ▸ op_eqA hu
theorem k_ne (hu : X.A.units + 64 < cLine) (h : X.K = K := by rfl) : OpR X (compareOp .NotEq) (rNeA K) := h ▸ op_neA hu
theorem k_in (h : X.K = K := by rfl) : OpR X (compareOp .In) (rIn K false) := h ▸ op_in_seq
theorem k_ix (h : X.K = K := by rfl) : IxR X (rIx K) := h ▸ ix_seq
theorem k_slL (h : X.K = K := by rfl) : SlR X (rSlL K) := h ▸ sl_list
theorem k_slT (h : X.K = K := by rfl) : SlR X (rSlA K) := h ▸ sl_tupA
def cLen (K : PySem.W.Frag) : List V → Hp → VK → Prop := fun xs H Q => ∃ p ys, xs = [.ref p] ∧ (SqL K H p ys ∨ SqT K H p ys) ∧ Q (.int ys.length) H
def cList (K : PySem.W.Frag) : List V → Hp → VK → Prop := fun xs H Q => ∃ p ys, xs = [.ref p] ∧ (SqL K H p ys ∨ SqT K H p ys) ∧ ∀ l, H l = none → Q (.ref l) (upd H l (.lst ys))
def cTuple (K : PySem.W.Frag) : List V → Hp → VK → Prop := fun xs H Q => ∃ p ys, xs = [.ref p] ∧ ((SqL K H p ys ∧ ∀ l, H l = none → Q (.ref l) (upd H l (.tup ys))) ∨ (SqT K H p ys ∧ Q (.ref p) H))
theorem k_len (h : X.K = K := by rfl) : CallR X (.builtin "len") (cLen K) := h ▸ call_len_seq
theorem k_list (h : X.K = K := by rfl) : CallR X (.type "list") (cList K) := h ▸ call_list_of
theorem k_tuple (h : X.K = K := by rfl) : CallR X (.type "tuple") (cTuple K) := h ▸ call_tuple_of
theorem k_any (hc : X.calm = true := by rfl) (h : X.K = K := by rfl) : CallR X (.builtin "any") (rAny K) := h ▸ cr_any hc
theorem k_all (hc : X.calm = true := by rfl) (h : X.K = K := by rfl) : CallR X (.builtin "all") (rAll K) := h ▸ cr_all hc
theorem k_isi (h : X.K = K := by rfl) : CallR X (.builtin "isinstance") (rIsi K) := h ▸ call_isi
theorem k_maxD (hc : X.calm = true := by rfl) (h : X.K = K := by rfl) : CallRK X (.builtin "max") ["default"] (rMaxD K) := h ▸ cr_maxD hc
end
section
variable {X : Cx} (K : PySem.W.Frag) {tg l e e2 o : Expr} {es : List Expr} {tl te to : TE} {ta t : TA} {p pos tpos p2 pos2 apos cpos : Pos} {elts : List Expr} {kk : Nat}
theorem k_seq (hl : PE X l tl) (h : X.K = K := by rfl) : PI X tg l (iSeq K tl) := h ▸ pi_seq hl
theorem k_enum (hg : Gl X "enumerate") (hm : X.mg "enumerate" = none) (ha : PA X [e] ta) (hs : starEach [e] X.env = [(false, eval e X.env)] := by rfl) (h : X.K = K := by rfl) :
    PI X (.Tuple elts kk tpos) (.Call (.Name "enumerate" p) [e] [] pos) (iEnumA K ta) := h ▸ pi_enumA hg hm ha hs
theorem k_zip (hg : Gl X "zip") (hm : X.mg "zip" = none) (ha : PA X [e, e2] ta)
    (hs : starEach [e, e2] X.env = (false, eval e X.env) :: starEach [e2] X.env := by rfl) (hpl : (backTo pos (starEach [e2] X.env)).any (·.1) = false := by rfl) (h : X.K = K := by rfl) :
    PI X (.Tuple elts kk tpos) (.Call (.Name "zip" p) [e, e2] [] pos) (iZipA K ta) := h ▸ pi_zipA hg hm ha hs hpl
theorem k_rev (hg : Gl X "reversed") (hm : X.mg "reversed" = none) (he : PE X e te) (hs : starEach [e] X.env = (false, eval e X.env) :: starEach [] X.env := by rfl) (h : X.K = K := by rfl) : PI X tg (.Call (.Name "reversed" p) [e] [] pos) (iRevA K te) := h ▸ pi_revA hg hm he hs
theorem k_gtup {es : List Expr} {k : Nat} {t : TGs} {n : Nat} (hc : X.calm = true) (hp : PGs X es t)
    (hn : (assignEach es X.env).length = n := by rfl) (hst : (assignEach es X.env).findIdx? (·.1) = none := by rfl) (h : X.K = K := by rfl) : PG X (.Tuple es k pos) (gTup K n t) := h ▸ pg_tup hc hp hn hst
theorem k_append (ho : PE X o to) (ha : PA X (e :: es) t)
    (hbase : attributeBase o "append" X.env (eval o X.env) = eval o X.env := by rfl)
    (hfew : ((backTo cpos (starEach (e :: es) X.env)).all (fun x => !x.1) && (backToKw cpos (keywordEach [] X.env)).all (fun x => x.1.isSome)
      && decide ((e :: es).length + ([] : List Keyword).length + (if ([] : List Keyword).isEmpty then 0 else 1) < 30)) = true := by rfl)
    (hline : (apos.endLine == cpos.line) = true := by rfl) (hs : starEach (e :: es) X.env = (false, eval e X.env) :: starEach es X.env := by rfl) (hplain : (backTo cpos (starEach es X.env)).any (·.1) = false := by rfl) (h : X.K = K := by rfl) :
    PE X (.Call (.Attribute o "append" apos) (e :: es) [] cpos) (tBM K "list" rAppend to t) := h ▸ pe_bm PySem.F.plainAttrs_list PySem.F.slot_list_append PySem.F.type_list_append mt_append ho ha hbase hfew hline hs hplain
theorem k_pop (ho : PE X o to) (hbase : attributeBase o "pop" X.env (eval o X.env) = eval o X.env := by rfl) (hline : (apos.endLine == cpos.line) = true := by rfl) (h : X.K = K := by rfl) :
    PE X (.Call (.Attribute o "pop" apos) [] [] cpos) (tBM0 K "list" rPop to) := h ▸ pe_bm0 PySem.F.plainAttrs_list PySem.F.slot_list_pop PySem.F.type_list_pop mt_pop ho hbase hline
theorem k_lstRev (hc : X.calm = true) (hg : Gl X "list") (hm : X.mg "list" = none) (hg2 : Gl X "reversed") (hm2 : X.mg "reversed" = none) (he : PE X e te)
    (hs : starEach [e] X.env = (false, eval e X.env) :: starEach [] X.env := by rfl)
    (hs2 : starEach [.Call (.Name "reversed" p2) [e] [] pos2] X.env = (false, eval (.Call (.Name "reversed" p2) [e] [] pos2) X.env) :: starEach [] X.env := by rfl) (h : X.K = K := by rfl) :
    PE X (.Call (.Name "list" p) [.Call (.Name "reversed" p2) [e] [] pos2] [] pos) (tLstRev K te) := h ▸ pe_lstRev hc hg hm hg2 hm2 he hs hs2
end
section
variable {K : PySem.W.Frag} {S : Sto} {P : PD} {x : Dt}
theorem rk_len {ds : List Dt} (h : SV S x ds) (p : P (.i (ds.length : Int)) S) : Rc K (cLen K) [x] S P := rc_len h p
theorem rk_list {ds : List Dt} (h : SV S x ds) (p : P (.l ds) S ∨ ∀ p, S p = none → P (.a p) (S.put p (.l ds))) : Rc K (cList K) [x] S P := rc_list h p
theorem rk_tuple {ds : List Dt} (h : SV S x ds) (p : P (.t ds) S) : Rc K (cTuple K) [x] S P := rc_tuple h p
theorem rv_mulN {ds : List Dt} {n : Nat} {b : Int} (h1 : ∃ p, x = .a p ∧ S p = some (.l ds)) (hb : b = (n : Int)) (hz : ds.length * n ≤ 100000) (hn : n ≤ 100000) (p : P (.l (List.replicate n ds).flatten) S ∨ ∀ p, S p = none → P (.a p) (S.put p (.l (List.replicate n ds).flatten))) : Rv K rMulA x (.i b) S P := by
  subst hb; exact rv_mulL h1 hz hn p
theorem rep_one (n : Nat) (d : Dt) : (List.replicate n [d]).flatten = List.replicate n d := by
  induction n with
  | zero => rfl
  | succ n ih => rw [List.replicate_succ, List.flatten_cons, ih, List.replicate_succ]; rfl
theorem rep_ints (n : Nat) (k : Int) : List.replicate n (Dt.i k) = (List.replicate n k).map Dt.i := by simp
theorem ev_var2 {sl : Sl} {i : Nat} (h : ∃ d, sl[i]? = some (some d) ∧ P d S) : Ev K (tVar i) sl S P := h.elim fun _ q => ev_var q.1 q.2
end
end Nf

set_option Elab.async false
set_option linter.all false
/-! Sizes and rests of what the mirrors tell; small rules. -/
namespace Nf
open PySem PySem.Spec PyProof.Rows L2 RT RZ Mz
theorem nf2 {A B : Prop} (h : A) : ((!false) = true → A) ∧ ((!false) = false → B) := ⟨fun _ => h, fun z => (nomatch z)⟩
theorem nt2 {A B : Prop} (h : B) : ((!true) = true → A) ∧ ((!true) = false → B) := ⟨fun z => (nomatch z), fun _ => h⟩
theorem nf3 {A B : Prop} (h : B) : ((!false) = false → A) ∧ ((!false) = true → B) := ⟨fun z => (nomatch z), fun _ => h⟩
theorem nt3 {A B : Prop} (h : A) : ((!true) = false → A) ∧ ((!true) = true → B) := ⟨fun _ => h, fun z => (nomatch z)⟩
section
variable {p : Prop} [Decidable p] {A B : Prop}
theorem dd2 (h1 : p → A) (h2 : ¬ p → B) : (decide p = true → A) ∧ (decide p = false → B) := ⟨fun h => h1 (of_decide_eq_true h), fun h => h2 (of_decide_eq_false h)⟩
theorem dd3 (h1 : p → B) (h2 : ¬ p → A) : (decide p = false → A) ∧ (decide p = true → B) := ⟨fun h => h2 (of_decide_eq_false h), fun h => h1 (of_decide_eq_true h)⟩
theorem nd2 (h1 : p → B) (h2 : ¬ p → A) : ((!decide p) = true → A) ∧ ((!decide p) = false → B) := ⟨fun h => h2 (by simpa using h), fun h => h1 (by simpa using h)⟩
theorem nd3 (h1 : p → A) (h2 : ¬ p → B) : ((!decide p) = false → A) ∧ ((!decide p) = true → B) := ⟨fun h => h1 (by simpa using h), fun h => h2 (by simpa using h)⟩
end
theorem len0 {A : Prop} (h : A) : ([] : List Dt).length ≤ 100000 ∧ A := ⟨by decide, h⟩
theorem len1 {A : Prop} {a : Dt} (h : A) : [a].length ≤ 100000 ∧ A := ⟨by simp, h⟩
theorem len2 {A : Prop} {a b : Dt} (h : A) : [a, b].length ≤ 100000 ∧ A := ⟨by simp, h⟩
theorem len3 {A : Prop} {a b c : Dt} (h : A) : [a, b, c].length ≤ 100000 ∧ A := ⟨by simp, h⟩
theorem len5 {A : Prop} {a b c d e : Dt} (h : A) : [a, b, c, d, e].length ≤ 100000 ∧ A := ⟨by simp, h⟩
theorem atI_last {α β : Type} {enc : α → β} {i : List α} {x : α} : atI ((i ++ [x]).map enc) (-1) = some (enc x) := by rw [map_snoc]; exact atI_back
def RedR (m : Int) (P : List (List Int)) : Prop := ∀ r ∈ P, Red m r
theorem pol_len {m : Int} {xs : List Int} : (pol m xs).length ≤ xs.length := by
  have h := trm_len (z := isZ) (l := xs.map (· % m))
  rw [List.length_map] at h
  exact h
theorem trm_mem {α : Type} {z : α → Bool} {l : List α} {x : α} (h : x ∈ trm z l) : x ∈ l := by
  unfold trm at h
  exact List.mem_reverse.mp ((List.dropWhile_sublist _).subset (List.mem_reverse.mp h))
theorem red_mod {m : Int} (hm : 0 < m) {xs : List Int} : Red m (xs.map (· % m)) := fun c hc => by
  obtain ⟨x, _, rfl⟩ := List.mem_map.mp hc
  exact ⟨Int.emod_nonneg _ (by omega), Int.emod_lt_of_pos _ hm⟩
theorem red_pol {m : Int} (hm : 0 < m) {xs : List Int} : Red m (pol m xs) := fun c hc => red_mod hm c (trm_mem hc)
theorem red_nil {m : Int} : Red m [] := fun c hc => nomatch hc
theorem redR_nil {m : Int} : RedR m [] := fun c hc => nomatch hc
theorem RedR.row {m : Int} {P : List (List Int)} (h : RedR m P) (i : Nat) : Red m (rowM P i) := by
  by_cases hi : i < P.length
  · unfold rowM
    rw [List.getD_eq_getElem?_getD, List.getElem?_eq_getElem hi]
    exact h _ (List.getElem_mem hi)
  · rw [row_out hi]; exact red_nil
theorem red_pol2 {m : Int} (hm : 0 < m) {P : List (List Int)} : RedR m (pol2 m P) := fun r hr => by
  obtain ⟨x, _, rfl⟩ := List.mem_map.mp (trm_mem hr)
  exact red_pol hm
theorem sz_nil {n : Nat} : Sz n [] := ⟨Nat.zero_le _, fun r hr => nomatch hr⟩
theorem sz_pol2 {m : Int} {n : Nat} {P : List (List Int)} (h : Sz n P) : Sz n (pol2 m P) := by
  refine ⟨?_, fun r hr => ?_⟩
  · have h2 := trm_len (z := List.isEmpty) (l := P.map (pol m))
    rw [List.length_map] at h2
    exact Nat.le_trans h2 h.1
  · obtain ⟨x, hx, rfl⟩ := List.mem_map.mp (trm_mem hr)
    exact Nat.le_trans pol_len (h.2 x hx)
theorem plusM_len {m : Int} {f g : List Int} : (plusM m f g).length ≤ max f.length g.length := by
  have h := pol_len (m := m) (xs := (List.range (max f.length g.length)).map fun k => co f k + co g k)
  rw [List.length_map, List.length_range] at h
  exact h
theorem lessM_len {m : Int} {f g : List Int} : (lessM m f g).length ≤ max f.length g.length := by
  have h := pol_len (m := m) (xs := (List.range (max f.length g.length)).map fun k => co f k - co g k)
  rw [List.length_map, List.length_range] at h
  exact h
theorem foldl_len {α β : Type} {g : List β → α → List β} (hg : ∀ acc a, (g acc a).length = acc.length) : ∀ (xs : List α) (acc : List β), (xs.foldl g acc).length = acc.length
  | [], _ => rfl
  | x :: xs, acc => by rw [List.foldl_cons, foldl_len hg xs, hg]
theorem mulL_len {m : Int} {f g : List Int} : (mulL m f g).length = f.length + g.length := by
  unfold mulL
  rw [foldl_len (fun acc i => foldl_len (fun acc j => List.length_set) _ _), List.length_replicate]
theorem timesM_len {m : Int} {f g : List Int} : (timesM m f g).length ≤ f.length + g.length := by
  have h := pol_len (m := m) (xs := mulL m f g)
  rw [mulL_len] at h
  exact h
theorem red_plusM {m : Int} (hm : 0 < m) {f g : List Int} : Red m (plusM m f g) := red_pol hm
theorem red_timesM {m : Int} (hm : 0 < m) {f g : List Int} : Red m (timesM m f g) := red_pol hm
theorem sz_mapr {n : Nat} {f : Nat → List Int} (k : Nat) (hk : k ≤ n) (h : ∀ i, i < k → (f i).length ≤ n) : Sz n ((List.range k).map f) := by
  refine ⟨by rw [List.length_map, List.length_range]; exact hk, fun r hr => ?_⟩
  obtain ⟨i, hi, rfl⟩ := List.mem_map.mp hr
  exact h i (List.mem_range.mp hi)
theorem sz_plus2 {m : Int} {n : Nat} {P Q : List (List Int)} (h1 : Sz n P) (h2 : Sz n Q) : Sz n (plus2M m P Q) :=
  sz_pol2 (sz_mapr _ (Nat.max_le.mpr ⟨h1.1, h2.1⟩) fun i _ => Nat.le_trans plusM_len (Nat.max_le.mpr ⟨h1.row i, h2.row i⟩))
theorem sz_less2 {m : Int} {n : Nat} {P Q : List (List Int)} (h1 : Sz n P) (h2 : Sz n Q) : Sz n (less2M m P Q) :=
  sz_pol2 (sz_mapr _ (Nat.max_le.mpr ⟨h1.1, h2.1⟩) fun i _ => Nat.le_trans lessM_len (Nat.max_le.mpr ⟨h1.row i, h2.row i⟩))
theorem en_at {α : Type} : ∀ {xs : List α} {k i : Nat} {x : α}, (i, x) ∈ en k xs → k ≤ i ∧ xs[i - k]? = some x
  | [], _, _, _, h => nomatch h
  | y :: ys, k, i, x, h => by
    unfold en at h
    rcases List.mem_cons.mp h with e | h2
    · cases e
      exact ⟨Nat.le_refl _, by rw [Nat.sub_self]; rfl⟩
    · obtain ⟨h3, h4⟩ := en_at h2
      refine ⟨by omega, ?_⟩
      rw [show i - k = (i - (k + 1)) + 1 by omega]
      exact h4
theorem en_mem {α : Type} {xs : List α} {q : Nat × α} (h : q ∈ en 0 xs) : q.1 < xs.length ∧ xs[q.1]? = some q.2 ∧ q.2 ∈ xs := by
  obtain ⟨_, h2⟩ := en_at (i := q.1) (x := q.2) h
  rw [Nat.sub_zero] at h2
  exact ⟨(List.getElem?_eq_some_iff.mp h2).1, h2, List.mem_of_getElem? h2⟩
theorem en_len {α : Type} : ∀ {xs : List α} {k : Nat}, (en k xs).length = xs.length
  | [], _ => rfl
  | x :: xs, k => by unfold en; rw [List.length_cons, en_len, List.length_cons]
theorem Sz.set {n : Nat} {P : List (List Int)} (h : Sz n P) {i : Nat} {r : List Int} (hr : r.length ≤ n) : Sz n (P.set i r) :=
  ⟨by rw [List.length_set]; exact h.1, fun x hx => (List.mem_or_eq_of_mem_set hx).elim (h.2 x) fun e => by rw [e]; exact hr⟩
theorem RedR.set {m : Int} {P : List (List Int)} (h : RedR m P) {i : Nat} {r : List Int} (hr : Red m r) : RedR m (P.set i r) :=
  fun x hx => (List.mem_or_eq_of_mem_set hx).elim (h x) fun e => by rw [e]; exact hr
theorem sz_rep {n k : Nat} (h : k ≤ n) : Sz n (List.replicate k []) := ⟨by rw [List.length_replicate]; exact h, fun r hr => by rw [(List.mem_replicate.mp hr).2]; exact Nat.zero_le _⟩
theorem foldl_inv {α β : Type} (I : β → Prop) {g : β → α → β} : ∀ {xs : List α} {acc : β}, I acc → (∀ acc a, a ∈ xs → I acc → I (g acc a)) → I (xs.foldl g acc)
  | [], _, h, _ => h
  | x :: xs, acc, h, hs => foldl_inv I (xs := xs) (hs acc x List.mem_cons_self h) fun acc a ha => hs acc a (List.mem_cons_of_mem _ ha)
theorem sz_mulR {m : Int} {a b : Nat} {P Q : List (List Int)} (h1 : Sz a P) (h2 : Sz b Q) : Sz (a + b) (mulR m P Q) := by
  unfold mulR
  refine foldl_inv _ (sz_rep (by have := h1.1; have := h2.1; omega)) fun acc p hp h => ?_
  refine foldl_inv _ h fun acc q hq h => h.set ?_
  have e1 := h1.2 _ (en_mem hp).2.2
  have e2 := h2.2 _ (en_mem hq).2.2
  refine Nat.le_trans plusM_len (Nat.max_le.mpr ⟨h.row _, Nat.le_trans timesM_len (by omega)⟩)
theorem sz_times2 {m : Int} {a b : Nat} {P Q : List (List Int)} (h1 : Sz a P) (h2 : Sz b Q) : Sz (a + b) (times2M m P Q) := sz_pol2 (sz_mulR h1 h2)
theorem sz_one {n : Nat} {x : Int} (h : 1 ≤ n) : Sz n [[x]] := ⟨h, fun r hr => by rw [List.mem_singleton.mp hr]; exact h⟩
theorem lst_set {α : Type} {enc : α → Dt} {P : List α} {i : Nat} {x : α} : ((P.map enc).set i (enc x)) = (P.set i x).map enc := by rw [List.map_set]
theorem row_gl {enc : List Int → Dt} {P : List (List Int)} {k : Nat} (h : k < P.length) : (P.map enc)[k]? = some (enc (rowM P k)) := row_at (α := Int) h
theorem pol2_one {m x : Int} : pol2 m [[x]] = trm List.isEmpty [pol m [x]] := rfl
theorem foldl_rev {α β : Type} {g : β → α → β} {xs : List α} {b : β} : xs.reverse.foldl g b = xs.foldr (fun a b => g b a) b := by rw [List.foldl_reverse]
section
variable {K : PySem.W.Frag} {S : Sto} {sl : Sl} {P : PD} {N : NX} {R : PD} {te : TE} {tu : TS} {tr : TA} {j : Nat}
theorem drop_range {n k x : Nat} {r : List Nat} (h : x :: r = (List.range n).drop k) : k < n ∧ x = k ∧ r = (List.range n).drop (k + 1) := by
  have hk : k < n := by
    apply Classical.byContradiction
    intro z
    rw [List.drop_eq_nil_of_le (by rw [List.length_range]; omega)] at h
    cases h
  rw [drop_cons (show (List.range n)[k]? = some k by rw [List.getElem?_range hk])] at h
  injection h with h1 h2
  exact ⟨hk, h1, h2⟩
theorem wp_forI (h : EvA K tr sl S fun ds S1 => ∃ (n : Nat) (I : Nat → NX), ds = [.i (n : Int)] ∧ n ≤ 100000 ∧ I 0 sl S1 ∧
    (∀ k sl2 S2, k < n → I k sl2 S2 → WP K tu (setE sl2 j (.i (k : Int))) S2 (I (k + 1)) R) ∧ (∀ sl2 S2, I n sl2 S2 → N sl2 S2)) : WP K (tFor (iRng1 tr) (gName j) tu) sl S N R := by
  refine wp_forN fun M σ H hd Q o => h M σ H hd Q fun ds S' M' vs' H' p k s r => o ds S' M' vs' H' ?_ k s r
  obtain ⟨n, I, rfl, hn, i0, is, id⟩ := p
  refine ⟨n, fun r sl2 S2 => ∃ k, k ≤ n ∧ r = (List.range n).drop k ∧ I k sl2 S2, rfl, hn, ⟨0, Nat.zero_le _, rfl, i0⟩, fun x r sl2 S2 _ i => ?_, fun sl2 S2 i => ?_⟩
  · obtain ⟨k, hk, e, i⟩ := i
    obtain ⟨h1, rfl, h3⟩ := drop_range e
    exact (is x sl2 S2 h1 i).mono (fun sl3 S3 q => ⟨x + 1, h1, h3, q⟩) fun _ _ q => q
  · obtain ⟨k, hk, e, i⟩ := i
    have : k = n := by
      have h2 := congrArg List.length e
      rw [List.length_drop, List.length_range, List.length_nil] at h2
      omega
    subst this
    exact id sl2 S2 i
variable {g : TG} {js : List Nat} {un : Dt → List Dt → Prop} {α : Type} {wi : TI}
/-- what is of the store stays -/
def Kp (S S' : Sto) : Prop := ∀ p c, S p = some c → S' p = some c
theorem Kp.refl (S : Sto) : Kp S S := fun _ _ h => h
theorem Kp.put {S S' : Sto} (h : Kp S S') {p : Addr} {c : Cel} (e : S' p = none) : Kp S (S'.put p c) := fun q d hq => by
  have := h q d hq
  by_cases z : q = p
  · subst z; rw [e] at this; cases this
  · rw [put_ne z]; exact this
theorem ev_lcI {vs : List Nat} (tg : Tg K g js un) (hv : ∀ j ∈ js, j ∈ vs) (h : EvI K wi sl S fun ds S1 => ∃ (I : Sto → Prop) (xs : List α) (enc f : α → Dt), ds = xs.map enc ∧ xs.length ≤ 100000 ∧ I S1 ∧
      (∀ x ∈ xs, ∀ S2, I S2 → ∃ es, un (enc x) es ∧ Ev K te (setA (wipeE sl vs) js es) S2 fun y S3 => y = f x ∧ I S3) ∧ (∀ S2, I S2 → (P (.l (xs.map f)) S2 ∨ ∀ p, S2 p = none → P (.a p) (S2.put p (.l (xs.map f)))))) : Ev K (tLc wi g tYes te vs) sl S P := by
  refine lc_gen tg hv fun M σ H hd R o => h M σ H hd R fun J ds S' M' H' p k s y => o J ds S' M' H' ?_ k s y
  obtain ⟨I, xs, enc, f, rfl, hl, i0, hs, hp⟩ := p
  refine ⟨fun rest acc S2 => I S2 ∧ ∃ ys zs, xs = ys ++ zs ∧ rest = zs.map enc ∧ acc = ys.map f, ⟨i0, [], xs, rfl, rfl, rfl⟩, fun d r acc S2 i => ?_, fun acc S2 i => ?_⟩
  · obtain ⟨i, ys, zs, e1, e2, rfl⟩ := i
    cases zs with
    | nil => cases e2
    | cons z zs =>
      cases e2
      obtain ⟨es, hu, w⟩ := hs z (by rw [e1]; simp) S2 i
      refine ⟨by rw [List.length_map]; rw [e1, List.length_append] at hl; omega, es, hu, et_yes ⟨fun _ => w.mono fun d S3 q => ?_, fun z => nomatch z⟩⟩
      obtain ⟨rfl, i3⟩ := q
      exact ⟨i3, ys ++ [z], zs, by rw [e1]; simp, rfl, by simp⟩
  · obtain ⟨i, ys, zs, e1, e2, rfl⟩ := i
    have : zs = [] := List.map_eq_nil_iff.mp e2.symm
    subst this
    rw [List.append_nil] at e1
    subst e1
    exact hp S2 i
end
/-! the numbers of a range -/
theorem rng_mem {lo c : Int} {n : Nat} {x : Int} (h : x ∈ rng lo c n) : ∃ i : Nat, i < n ∧ x = lo + (i : Int) * c := by
  unfold rng at h
  obtain ⟨i, hi, rfl⟩ := List.mem_map.mp h
  exact ⟨i, List.mem_range.mp hi, rfl⟩
theorem rng_snoc {lo c : Int} {n : Nat} : rng lo c (n + 1) = rng lo c n ++ [lo + (n : Int) * c] := by
  unfold rng
  rw [List.range_succ, List.map_append]; rfl
theorem rise_eq : ∀ n : Nat, (rng 2 1 n).foldl (· * ·) 1 = (fac (n + 1) : Int)
  | 0 => rfl
  | n + 1 => by
    rw [rng_snoc, List.foldl_append, rise_eq n]
    show (fac (n + 1) : Int) * (2 + (n : Int) * 1) = (fac (n + 2) : Int)
    rw [show fac (n + 2) = (n + 2) * fac (n + 1) from rfl, Int.natCast_mul, Int.mul_comm]
    congr 1
    omega
theorem fac_rise (k : Nat) : (rng 2 1 ((k : Int) + 1 - 2).toNat).foldl (· * ·) 1 = (fac k : Int) := by
  cases k with
  | zero => rfl
  | succ n =>
    rw [show (((n + 1 : Nat) : Int) + 1 - 2).toNat = n by omega, rise_eq]
theorem fac_pos : ∀ n, 0 < fac n
  | 0 => by decide
  | n + 1 => Nat.mul_pos (Nat.succ_pos n) (fac_pos n)
theorem fac_lt : ∀ n, fac n < 2 ^ (n * n + 1)
  | 0 => by decide
  | n + 1 => by
    have h := fac_lt n
    have h2 : n + 1 ≤ 2 ^ n := Nat.lt_two_pow_self
    calc (n + 1) * fac n ≤ 2 ^ n * fac n := Nat.mul_le_mul_right _ h2
      _ < 2 ^ n * 2 ^ (n * n + 1) := Nat.mul_lt_mul_of_pos_left h (Nat.two_pow_pos n)
      _ = 2 ^ (n + (n * n + 1)) := (Nat.pow_add ..).symm
      _ ≤ 2 ^ ((n + 1) * (n + 1) + 1) := Nat.pow_le_pow_right (by decide) (by rw [Nat.add_mul, Nat.mul_add]; omega)
theorem fac_wide {i j : Nat} (hi : i ≤ 400) (hj : j ≤ 400) : CMulW (fac i : Int) (fac j : Int) := by
  have h : ∀ {n : Nat}, n ≤ 400 → (fac n : Int).natAbs < 2 ^ 200000 := fun {n} hn => by
    rw [Int.natAbs_natCast]
    refine Nat.lt_of_lt_of_le (fac_lt n) (Nat.pow_le_pow_right (by decide) ?_)
    have := Nat.mul_le_mul hn hn
    omega
  exact wide_mul (h hi) (h hj) (by decide) (by decide) (by decide)
theorem top_bd {m : Int} (hm : 0 < m) (i j : Nat) : 0 ≤ top m i j ∧ top m i j ≤ m := by
  unfold top
  exact ⟨Int.ediv_nonneg (by omega) (Int.natCast_nonneg _), Int.ediv_le_self _ (by omega)⟩
theorem top_pos {m : Int} (hm : 0 < m) (i j : Nat) : 0 < top m i j := by
  unfold top
  have h : ((Int.gcd m ((fac i * fac j : Nat) : Int) : Nat) : Int) ∣ m := Int.gcd_dvd_left ..
  obtain ⟨c, hc⟩ := h
  have hg : 0 < Int.gcd m ((fac i * fac j : Nat) : Int) := Int.gcd_pos_of_ne_zero_left _ (by omega)
  rw [show m / ((Int.gcd m ((fac i * fac j : Nat) : Int) : Nat) : Int) = c from Int.ediv_eq_of_eq_mul_right (by omega) hc]
  apply Classical.byContradiction
  intro z
  have : ((Int.gcd m ((fac i * fac j : Nat) : Int) : Nat) : Int) * c ≤ 0 := Int.mul_nonpos_of_nonneg_of_nonpos (by omega) (by omega)
  omega
theorem en_map {α β : Type} [Inhabited α] {g : Nat × α → β} {d : α} : ∀ {xs : List α} {k : Nat}, (en k xs).map g = (List.range xs.length).map fun i => g (k + i, xs.getD i d)
  | [], _ => rfl
  | x :: xs, k => by
    rw [List.length_cons, List.range_succ_eq_map]
    unfold en
    rw [List.map_cons, List.map_cons, en_map (d := d), List.map_map]
    congr 1
    apply List.map_congr_left
    intro i _
    show g (k + 1 + i, _) = g (k + (i + 1), _)
    rw [show k + 1 + i = k + (i + 1) by omega]; rfl
/-! the product has one place less than both together -/
theorem mulL_last {m : Int} {f g : List Int} (hf : 0 < f.length) (hg : 0 < g.length) : (mulL m f g)[f.length + g.length - 1]? = some 0 := by
  unfold mulL
  refine foldl_inv (fun acc => acc[f.length + g.length - 1]? = some 0) ?_ fun acc i hi h => ?_
  · rw [List.getElem?_replicate, if_pos (by omega)]
  · refine foldl_inv (fun acc => acc[f.length + g.length - 1]? = some 0) h fun acc j hj h => ?_
    have h1 := List.mem_range.mp hi
    have h2 := List.mem_range.mp hj
    rw [List.getElem?_set_ne (by omega)]
    exact h
theorem pol_drop {m : Int} {l : List Int} {n : Nat} (hl : l.length = n + 1) (h : l[n]? = some 0) : (pol m l).length ≤ n := by
  obtain ⟨i, x, rfl⟩ := snoc_of (l := l) (fun z => by rw [z] at hl; cases hl)
  rw [List.length_append, List.length_singleton] at hl
  have e : i.length = n := by omega
  subst e
  rw [List.getElem?_append_right (Nat.le_refl _), Nat.sub_self] at h
  cases h
  unfold pol
  rw [map_snoc, trm_snoc, if_pos (by unfold isZ; simp)]
  exact Nat.le_trans trm_len (by rw [List.length_map]; exact Nat.le_refl _)
theorem timesM_len2 {m : Int} {f g : List Int} (hf : 0 < f.length) (hg : 0 < g.length) : (timesM m f g).length ≤ f.length + g.length - 1 :=
  pol_drop (by rw [mulL_len]; omega) (mulL_last hf hg)
theorem nb_len {m : Int} : ∀ k, (nb m k).length ≤ k + 1
  | 0 => pol_len
  | k + 1 => by
    have h := nb_len (m := m) k
    have h2 : (pol m [-(k : Int), 1]).length ≤ 2 := pol_len
    show (timesM m (nb m k) (pol m [-(k : Int), 1])).length ≤ _
    by_cases h3 : 0 < (nb m k).length
    · by_cases h4 : 0 < (pol m [-(k : Int), 1]).length
      · have := timesM_len2 (m := m) h3 h4
        omega
      · have := timesM_len (m := m) (f := nb m k) (g := pol m [-(k : Int), 1])
        omega
    · have := timesM_len (m := m) (f := nb m k) (g := pol m [-(k : Int), 1])
      omega
theorem mz_ge : ∀ {l : List Nat} {n : Nat}, n ∈ l → n ≤ mx l
  | x :: l, n, h => by
    unfold mx
    rcases List.mem_cons.mp h with rfl | h
    · exact Nat.le_max_left _ _
    · exact Nat.le_trans (mz_ge h) (Nat.le_max_right _ _)
theorem mz_leb : ∀ {l : List Nat} {b : Nat}, (∀ n ∈ l, n ≤ b) → mx l ≤ b
  | [], b, _ => Nat.zero_le _
  | x :: l, b, h => by
    unfold mx
    exact Nat.max_le.mpr ⟨h x List.mem_cons_self, mz_leb fun n hn => h n (List.mem_cons_of_mem _ hn)⟩
theorem wide_mem {P : List (List Int)} {r : List Int} (h : r ∈ P) : r.length ≤ wide P := mz_ge (List.mem_map.mpr ⟨r, h, rfl⟩)
theorem wide_le {P : List (List Int)} {n : Nat} (h : Sz n P) : wide P ≤ n := mz_leb fun k hk => by
  obtain ⟨r, hr, rfl⟩ := List.mem_map.mp hk
  exact h.2 r hr
theorem rng_at {β : Type} {f : Nat → β} {n k : Nat} (h : k < n) : ((List.range n).map f)[k]? = some (f k) := by
  rw [List.getElem?_map, List.getElem?_range h]; rfl
theorem dt_i {a b : Int} (h : a = b) : Dt.i a = Dt.i b := by rw [h]
theorem put_keep {S : Sto} {p q : Addr} {c d : Cel} (h : S q = some d) (e : S p = none) : (S.put p c) q = some d := (Kp.refl S).put e q d h
theorem syn_len {m k : Int} : ∀ {l : List Int}, (syn m k l).length = l.length
  | [] => rfl
  | a :: l => by
    show ((((syn m k l).headD 0) * k + a) % m :: syn m k l).length = _
    rw [List.length_cons, syn_len, List.length_cons]
theorem partN_len {m : Int} : ∀ {n k : Nat} {l : List Int}, (partN m n k l).length = n
  | 0, _, _ => rfl
  | n + 1, k, l => by
    show ((syn m (k : Int) l).headD 0 :: partN m n (k + 1) (syn m (k : Int) l).tail).length = _
    rw [List.length_cons, partN_len]
theorem partM_len {m : Int} {l : List Int} : (partM m l).length = l.length := partN_len
theorem pad_len {n : Nat} {l : List Int} (h : l.length ≤ n) : (pad n l).length = n := by
  unfold pad
  rw [List.length_append, List.length_replicate]; omega
theorem sz_tabT {f : List Int → List Int} {n : Nat} {A : List (List Int)} (h : Sz n A) : Sz n (tabT f A) := by
  unfold tabT
  refine sz_mapr _ h.1 fun i _ => ?_
  rw [List.length_map, List.length_map, List.length_range]
  exact wide_le h
theorem tabT_len {f : List Int → List Int} {A : List (List Int)} : (tabT f A).length = A.length := by
  unfold tabT
  rw [List.length_map, List.length_range]
theorem tabT_row {f : List Int → List Int} {A : List (List Int)} {r : List Int} (h : r ∈ tabT f A) : r.length = wide A := by
  unfold tabT at h
  obtain ⟨i, _, rfl⟩ := List.mem_map.mp h
  rw [List.length_map, List.length_map, List.length_range]
theorem sz_modT {m : Int} {n : Nat} {A : List (List Int)} (h : Sz n A) : Sz n (modT m A) := by
  unfold modT
  refine sz_mapr _ h.1 fun i _ => ?_
  rw [List.length_map, List.length_range]
  exact h.row i
/-- the paper's rows, by what is left -/
def divE (m : Int) : List (Nat × List Int) → Option (List (List Int))
  | [] => some []
  | q :: r => match divR m q.1 q.2 with
    | none => none
    | some a => (divE m r).map (a :: ·)
theorem divE_eq {m : Int} : ∀ {t : List (List Int)} {k : Nat}, divE m (en k t) = divT m k t
  | [], _ => rfl
  | row :: r, k => by
    unfold en divE divT
    rw [divE_eq]
    try rfl
theorem zip_en {β : Type} {f : Nat → β} : ∀ {xs : List Int} {k : Nat}, xs.zip ((List.range xs.length).map fun j => f (k + j)) = (en k xs).map fun r => (r.2, f r.1)
  | [], _ => rfl
  | x :: xs, k => by
    unfold en
    rw [List.length_cons, List.range_succ_eq_map, List.map_cons, List.zip_cons_cons, List.map_cons, List.map_map, ← zip_en]
    congr 2
    apply List.map_congr_left
    intro j _
    show f (k + (j + 1)) = f (k + 1 + j)
    rw [show k + (j + 1) = k + 1 + j by omega]
def encO : Option (List (List Int)) → Dt
  | none => .n
  | some t => tP t
end Nf

set_option Elab.async false
set_option linter.all false
set_option maxRecDepth 100000
set_option maxHeartbeats 4000000
/-! The text: its defs by places, what the walk asks of the top. Printed by gen.py. -/
namespace Nf
open PySem PySem.Spec PyProof.Rows L2 RT RZ
def topS (i : Nat) : Stmt := PySem.Challenge.pw_shufflerests_k86_whole_nets_are_apart.main.body.getD i (.Pass ⟨0, 0, 0, 0⟩)
abbrev s_common : Stmt := topS 4
theorem sc_common : FnScope ["a", "b", "rest"] ["a", "b"] (defScope s_common) := ⟨rfl, rfl, rfl, by decide +kernel, rfl, by decide +kernel, by decide +kernel⟩
abbrev s_poly : Stmt := topS 6
theorem sc_poly : FnScope ["m", "numbers", "found", "number"] ["m", "numbers"] (defScope s_poly) := ⟨rfl, rfl, rfl, by decide +kernel, rfl, by decide +kernel, by decide +kernel⟩
abbrev s_value : Stmt := topS 7
theorem sc_value : FnScope ["m", "f", "x", "found", "coefficient"] ["m", "f", "x"] (defScope s_value) := ⟨rfl, rfl, rfl, by decide +kernel, rfl, by decide +kernel, by decide +kernel⟩
abbrev s_coefficient_at : Stmt := topS 8
theorem sc_coefficient_at : FnScope ["f", "k"] ["f", "k"] (defScope s_coefficient_at) := ⟨rfl, rfl, rfl, by decide +kernel, rfl, by decide +kernel, by decide +kernel⟩
abbrev s_plus : Stmt := topS 9
theorem sc_plus : FnScope ["m", "f", "g", "k"] ["m", "f", "g"] (defScope s_plus) := ⟨rfl, rfl, rfl, by decide +kernel, rfl, by decide +kernel, by decide +kernel⟩
abbrev s_less : Stmt := topS 10
theorem sc_less : FnScope ["m", "f", "g", "k"] ["m", "f", "g"] (defScope s_less) := ⟨rfl, rfl, rfl, by decide +kernel, rfl, by decide +kernel, by decide +kernel⟩
abbrev s_times : Stmt := topS 11
theorem sc_times : FnScope ["m", "f", "g", "found", "i", "j"] ["m", "f", "g"] (defScope s_times) := ⟨rfl, rfl, rfl, by decide +kernel, rfl, by decide +kernel, by decide +kernel⟩
abbrev s_is_rest : Stmt := topS 13
theorem sc_is_rest : FnScope ["m", "thing"] ["m", "thing"] (defScope s_is_rest) := ⟨rfl, rfl, rfl, by decide +kernel, rfl, by decide +kernel, by decide +kernel⟩
abbrev s_is_row : Stmt := topS 14
theorem sc_is_row : FnScope ["m", "thing", "one"] ["m", "thing"] (defScope s_is_row) := ⟨rfl, rfl, rfl, by decide +kernel, rfl, by decide +kernel, by decide +kernel⟩
abbrev s_is_poly2 : Stmt := topS 15
theorem sc_is_poly2 : FnScope ["m", "thing", "row"] ["m", "thing"] (defScope s_is_poly2) := ⟨rfl, rfl, rfl, by decide +kernel, rfl, by decide +kernel, by decide +kernel⟩
abbrev s_poly2 : Stmt := topS 16
theorem sc_poly2 : FnScope ["m", "rows", "found", "row"] ["m", "rows"] (defScope s_poly2) := ⟨rfl, rfl, rfl, by decide +kernel, rfl, by decide +kernel, by decide +kernel⟩
abbrev s_row_of : Stmt := topS 17
theorem sc_row_of : FnScope ["P", "i"] ["P", "i"] (defScope s_row_of) := ⟨rfl, rfl, rfl, by decide +kernel, rfl, by decide +kernel, by decide +kernel⟩
abbrev s_plus2 : Stmt := topS 19
theorem sc_plus2 : FnScope ["m", "P", "Q", "i"] ["m", "P", "Q"] (defScope s_plus2) := ⟨rfl, rfl, rfl, by decide +kernel, rfl, by decide +kernel, by decide +kernel⟩
abbrev s_less2 : Stmt := topS 20
theorem sc_less2 : FnScope ["m", "P", "Q", "i"] ["m", "P", "Q"] (defScope s_less2) := ⟨rfl, rfl, rfl, by decide +kernel, rfl, by decide +kernel, by decide +kernel⟩
abbrev s_times2 : Stmt := topS 21
theorem sc_times2 : FnScope ["m", "P", "Q", "found", "i", "row", "j", "other"] ["m", "P", "Q"] (defScope s_times2) := ⟨rfl, rfl, rfl, by decide +kernel, rfl, by decide +kernel, by decide +kernel⟩
abbrev s_upon2 : Stmt := topS 22
theorem sc_upon2 : FnScope ["m", "P", "U", "V", "found", "row", "inner", "one"] ["m", "P", "U", "V"] (defScope s_upon2) := ⟨rfl, rfl, rfl, by decide +kernel, rfl, by decide +kernel, by decide +kernel⟩
abbrev s_in_x : Stmt := topS 23
theorem sc_in_x : FnScope ["f", "one"] ["f"] (defScope s_in_x) := ⟨rfl, rfl, rfl, by decide +kernel, rfl, by decide +kernel, by decide +kernel⟩
abbrev s_rising_product : Stmt := topS 26
theorem sc_rising_product : FnScope ["k", "found", "one"] ["k"] (defScope s_rising_product) := ⟨rfl, rfl, rfl, by decide +kernel, rfl, by decide +kernel, by decide +kernel⟩
abbrev s_top2 : Stmt := topS 27
theorem sc_top2 : FnScope ["m", "i", "j"] ["m", "i", "j"] (defScope s_top2) := ⟨rfl, rfl, rfl, by decide +kernel, rfl, by decide +kernel, by decide +kernel⟩
abbrev s_all_neighbours : Stmt := topS 28
theorem sc_all_neighbours : FnScope ["m", "many", "found", "last", "k"] ["m", "many"] (defScope s_all_neighbours) := ⟨rfl, rfl, rfl, by decide +kernel, rfl, by decide +kernel, by decide +kernel⟩
abbrev s_wide_of : Stmt := topS 29
theorem sc_wide_of : FnScope ["table", "row"] ["table"] (defScope s_wide_of) := ⟨rfl, rfl, rfl, by decide +kernel, rfl, by decide +kernel, by decide +kernel⟩
abbrev s_built : Stmt := topS 30
theorem sc_built : FnScope ["m", "table", "sides", "found", "i", "row", "inner", "j", "one", "e"] ["m", "table"] (defScope s_built) := ⟨rfl, rfl, rfl, by decide +kernel, rfl, by decide +kernel, by decide +kernel⟩
abbrev s_is_table : Stmt := topS 31
theorem sc_is_table : FnScope ["m", "thing", "row", "one"] ["m", "thing"] (defScope s_is_table) := ⟨rfl, rfl, rfl, by decide +kernel, rfl, by decide +kernel, by decide +kernel⟩
abbrev s_row_of_tops : Stmt := topS 32
theorem sc_row_of_tops : FnScope ["m", "i", "row", "j", "one"] ["m", "i", "row"] (defScope s_row_of_tops) := ⟨rfl, rfl, rfl, by decide +kernel, rfl, by decide +kernel, by decide +kernel⟩
abbrev s_lets_null2 : Stmt := topS 33
theorem sc_lets_null2 : FnScope ["m", "P", "thing", "i", "found"] ["m", "P", "thing"] (defScope s_lets_null2) := ⟨rfl, rfl, rfl, by decide +kernel, rfl, by decide +kernel, by decide +kernel⟩
abbrev s_parted : Stmt := topS 34
theorem sc_parted : FnScope ["m", "numbers", "left", "found", "k", "higher", "carried", "one"] ["m", "numbers"] (defScope s_parted) := ⟨rfl, rfl, rfl, by decide +kernel, rfl, by decide +kernel, by decide +kernel⟩
abbrev s_parts2 : Stmt := topS 35
theorem sc_parts2 : FnScope ["m", "P", "wide", "rows", "columns", "row", "j", "column", "i"] ["m", "P"] (defScope s_parts2) := ⟨rfl, rfl, rfl, by decide +kernel, rfl, by decide +kernel, by decide +kernel⟩
abbrev s_null2_paper : Stmt := topS 36
theorem sc_null2_paper : FnScope ["m", "P", "found", "i", "row", "tops", "j", "one", "by"] ["m", "P"] (defScope s_null2_paper) := ⟨rfl, rfl, rfl, by decide +kernel, rfl, by decide +kernel, by decide +kernel⟩
abbrev s_least2 : Stmt := topS 37
theorem sc_least2 : FnScope ["m", "P", "rows", "j", "i"] ["m", "P"] (defScope s_least2) := ⟨rfl, rfl, rfl, by decide +kernel, rfl, by decide +kernel, by decide +kernel⟩
abbrev s_is_null2 : Stmt := topS 41
theorem sc_is_null2 : FnScope ["m", "P", "thing", "found"] ["m", "P", "thing"] (defScope s_is_null2) := ⟨rfl, rfl, rfl, by decide +kernel, rfl, by decide +kernel, by decide +kernel⟩
abbrev s_has_word : Stmt := topS 42
theorem sc_has_word : FnScope ["thing", "word", "many"] ["thing", "word", "many"] (defScope s_has_word) := ⟨rfl, rfl, rfl, by decide +kernel, rfl, by decide +kernel, by decide +kernel⟩
abbrev s_is_shown : Stmt := topS 43
theorem sc_is_shown : FnScope ["m", "thing", "word"] ["m", "thing", "word"] (defScope s_is_shown) := ⟨rfl, rfl, rfl, by decide +kernel, rfl, by decide +kernel, by decide +kernel⟩
abbrev s_ask_both : Stmt := topS 45
theorem sc_ask_both : FnScope ["m", "one", "other", "a", "b"] ["m", "one", "other", "a", "b"] (defScope s_ask_both) := ⟨rfl, rfl, rfl, by decide +kernel, rfl, by decide +kernel, by decide +kernel⟩
abbrev s_lets_apart : Stmt := topS 46
theorem sc_lets_apart : FnScope ["m", "P", "Q", "thing", "word", "U", "V", "a", "b", "one", "other", "both"] ["m", "P", "Q", "thing"] (defScope s_lets_apart) := ⟨rfl, rfl, rfl, by decide +kernel, rfl, by decide +kernel, by decide +kernel⟩
abbrev s_apart_paper : Stmt := topS 48
theorem sc_apart_paper : FnScope ["m", "P", "Q", "U", "V", "a"] ["m", "P", "Q", "U", "V"] (defScope s_apart_paper) := ⟨rfl, rfl, rfl, by decide +kernel, rfl, by decide +kernel, by decide +kernel⟩
abbrev s_netted : Stmt := topS 50
theorem sc_netted : FnScope ["m", "net", "x", "y", "f", "key"] ["m", "net", "x", "y"] (defScope s_netted) := ⟨rfl, rfl, rfl, by decide +kernel, rfl, by decide +kernel, by decide +kernel⟩
abbrev s_unnetted : Stmt := topS 51
theorem sc_unnetted : FnScope ["m", "net", "x", "y", "f", "key"] ["m", "net", "x", "y"] (defScope s_unnetted) := ⟨rfl, rfl, rfl, by decide +kernel, rfl, by decide +kernel, by decide +kernel⟩
abbrev s_with_key : Stmt := topS 52
theorem sc_with_key : FnScope ["m", "step", "R"] ["m", "step", "R"] (defScope s_with_key) := ⟨rfl, rfl, rfl, by decide +kernel, rfl, by decide +kernel, by decide +kernel⟩
abbrev s_net_paper : Stmt := topS 53
theorem sc_net_paper : FnScope ["m", "net", "found", "P", "R", "step", "wide", "Q"] ["m", "net"] (defScope s_net_paper) := ⟨rfl, rfl, rfl, by decide +kernel, rfl, by decide +kernel, by decide +kernel⟩
abbrev s_net_whole : Stmt := topS 54
theorem sc_net_whole : FnScope ["m", "net", "line", "Q", "a"] ["m", "net"] (defScope s_net_whole) := ⟨rfl, rfl, rfl, by decide +kernel, rfl, by decide +kernel, by decide +kernel⟩
abbrev s_net_apart : Stmt := topS 55
theorem sc_net_apart : FnScope ["m", "net", "U", "V", "step", "P", "Q"] ["m", "net"] (defScope s_net_apart) := ⟨rfl, rfl, rfl, by decide +kernel, rfl, by decide +kernel, by decide +kernel⟩
abbrev s_law_tape : Stmt := topS 57
theorem sc_law_tape : FnScope ["_law_script"] ["_law_script"] (defScope s_law_tape) := ⟨rfl, rfl, rfl, by decide +kernel, rfl, by decide +kernel, by decide +kernel⟩
abbrev s_law_draw : Stmt := topS 58
theorem sc_law_draw : FnScope ["_law_tape_here", "_law_many", "_law_found", "_law_spot", "_law_cell", "_law_mixed"] ["_law_tape_here", "_law_many"] (defScope s_law_draw) := ⟨rfl, rfl, rfl, by decide +kernel, rfl, by decide +kernel, by decide +kernel⟩
abbrev s_law_trim : Stmt := topS 59
theorem sc_law_trim : FnScope ["_law_m", "_law_rows", "_law_found", "_law_row", "_law_some", "_law_one"] ["_law_m", "_law_rows"] (defScope s_law_trim) := ⟨rfl, rfl, rfl, by decide +kernel, rfl, by decide +kernel, by decide +kernel⟩
abbrev s_law_at : Stmt := topS 60
theorem sc_law_at : FnScope ["_law_m", "_law_kp", "_law_x", "_law_y", "_law_found", "_law_sides", "_law_row", "_law_other", "_law_one"] ["_law_m", "_law_kp", "_law_x", "_law_y"] (defScope s_law_at) := ⟨rfl, rfl, rfl, by decide +kernel, rfl, by decide +kernel, by decide +kernel⟩
abbrev s_law_add : Stmt := topS 61
theorem sc_law_add : FnScope ["_law_m", "_law_kp", "_law_kq", "_law_by", "_law_rows", "_law_i", "_law_one", "_law_other", "_law_wide_here", "_law_j"] ["_law_m", "_law_kp", "_law_kq", "_law_by"] (defScope s_law_add) := ⟨rfl, rfl, rfl, by decide +kernel, rfl, by decide +kernel, by decide +kernel⟩
abbrev s_law_mul : Stmt := topS 62
theorem sc_law_mul : FnScope ["_law_m", "_law_kp", "_law_kq", "_law_row", "_law_wide_here", "_law_k", "_law_rows", "_law_i", "_law_more", "_law_here", "_law_j", "_law_one", "_law_n", "_law_other"] ["_law_m", "_law_kp", "_law_kq"] (defScope s_law_mul) := ⟨rfl, rfl, rfl, by decide +kernel, rfl, by decide +kernel, by decide +kernel⟩
abbrev s_law_put : Stmt := topS 63
theorem sc_law_put : FnScope ["_law_m", "_law_kp", "_law_ku", "_law_kv", "_law_found", "_law_powers", "_law_i", "_law_row", "_law_inner", "_law_other", "_law_j", "_law_one"] ["_law_m", "_law_kp", "_law_ku", "_law_kv"] (defScope s_law_put) := ⟨rfl, rfl, rfl, by decide +kernel, rfl, by decide +kernel, by decide +kernel⟩
abbrev s_law_gcd : Stmt := topS 64
theorem sc_law_gcd : FnScope ["_law_one", "_law_other"] ["_law_one", "_law_other"] (defScope s_law_gcd) := ⟨rfl, rfl, rfl, by decide +kernel, rfl, by decide +kernel, by decide +kernel⟩
abbrev s_law_top : Stmt := topS 65
theorem sc_law_top : FnScope ["_law_m", "_law_i", "_law_j", "_law_found", "_law_k"] ["_law_m", "_law_i", "_law_j"] (defScope s_law_top) := ⟨rfl, rfl, rfl, by decide +kernel, rfl, by decide +kernel, by decide +kernel⟩
abbrev s_law_split : Stmt := topS 66
theorem sc_law_split : FnScope ["_law_m", "_law_numbers", "_law_left", "_law_k", "_law_at_here"] ["_law_m", "_law_numbers"] (defScope s_law_split) := ⟨rfl, rfl, rfl, by decide +kernel, rfl, by decide +kernel, by decide +kernel⟩
abbrev s_law_parts : Stmt := topS 67
theorem sc_law_parts : FnScope ["_law_m", "_law_kp", "_law_wide_here", "_law_rows", "_law_columns", "_law_row", "_law_j", "_law_column", "_law_i"] ["_law_m", "_law_kp"] (defScope s_law_parts) := ⟨rfl, rfl, rfl, by decide +kernel, rfl, by decide +kernel, by decide +kernel⟩
abbrev s_law_unsplit : Stmt := topS 68
theorem sc_law_unsplit : FnScope ["_law_m", "_law_numbers", "_law_left", "_law_k", "_law_at_here"] ["_law_m", "_law_numbers"] (defScope s_law_unsplit) := ⟨rfl, rfl, rfl, by decide +kernel, rfl, by decide +kernel, by decide +kernel⟩
abbrev s_law_sum : Stmt := topS 69
theorem sc_law_sum : FnScope ["_law_m", "_law_table", "_law_wide_here", "_law_rows", "_law_columns", "_law_row", "_law_j", "_law_column", "_law_i"] ["_law_m", "_law_table"] (defScope s_law_sum) := ⟨rfl, rfl, rfl, by decide +kernel, rfl, by decide +kernel, by decide +kernel⟩
abbrev s_law_is_rest : Stmt := topS 70
theorem sc_law_is_rest : FnScope ["_law_m", "_law_thing"] ["_law_m", "_law_thing"] (defScope s_law_is_rest) := ⟨rfl, rfl, rfl, by decide +kernel, rfl, by decide +kernel, by decide +kernel⟩
abbrev s_law_is_grid : Stmt := topS 71
theorem sc_law_is_grid : FnScope ["_law_m", "_law_thing", "_law_row", "_law_one"] ["_law_m", "_law_thing"] (defScope s_law_is_grid) := ⟨rfl, rfl, rfl, by decide +kernel, rfl, by decide +kernel, by decide +kernel⟩
abbrev s_law_null_due : Stmt := topS 72
theorem sc_law_null_due : FnScope ["_law_m", "_law_kp", "_law_thing", "_law_table", "_law_i", "_law_row", "_law_found", "_law_apart", "_law_j"] ["_law_m", "_law_kp", "_law_thing"] (defScope s_law_null_due) := ⟨rfl, rfl, rfl, by decide +kernel, rfl, by decide +kernel, by decide +kernel⟩
abbrev s_law_is : Stmt := topS 73
theorem sc_law_is : FnScope ["_law_m", "_law_thing", "_law_row", "_law_one"] ["_law_m", "_law_thing"] (defScope s_law_is) := ⟨rfl, rfl, rfl, by decide +kernel, rfl, by decide +kernel, by decide +kernel⟩
abbrev s_law_net : Stmt := topS 74
theorem sc_law_net : FnScope ["_law_tape_here", "_law_m", "_law_few", "_law_most", "_law_found", "_law_k", "_law_f", "_law_j"] ["_law_tape_here", "_law_m", "_law_few", "_law_most"] (defScope s_law_net) := ⟨rfl, rfl, rfl, by decide +kernel, rfl, by decide +kernel, by decide +kernel⟩
abbrev s_law_wide : Stmt := topS 75
theorem sc_law_wide : FnScope ["_law_m", "_law_kp", "_law_kr", "_law_turn", "_law_f", "_law_key", "_law_shifted", "_law_found", "_law_power", "_law_one"] ["_law_m", "_law_kp", "_law_kr", "_law_turn"] (defScope s_law_wide) := ⟨rfl, rfl, rfl, by decide +kernel, rfl, by decide +kernel, by decide +kernel⟩
abbrev s_law_least : Stmt := topS 76
theorem sc_law_least : FnScope ["_law_m", "_law_kp", "_law_table", "_law_rows", "_law_i", "_law_j"] ["_law_m", "_law_kp"] (defScope s_law_least) := ⟨rfl, rfl, rfl, by decide +kernel, rfl, by decide +kernel, by decide +kernel⟩
abbrev s_law_both : Stmt := topS 77
theorem sc_law_both : FnScope ["_law_m", "_law_net_here", "_law_kp", "_law_kr", "_law_turn"] ["_law_m", "_law_net_here"] (defScope s_law_both) := ⟨rfl, rfl, rfl, by decide +kernel, rfl, by decide +kernel, by decide +kernel⟩
abbrev s_law_paper_right : Stmt := topS 78
theorem sc_law_paper_right : FnScope ["_law_m", "_law_kp", "_law_kq", "_law_thing", "_law_one", "_law_other"] ["_law_m", "_law_kp", "_law_kq", "_law_thing"] (defScope s_law_paper_right) := ⟨rfl, rfl, rfl, by decide +kernel, rfl, by decide +kernel, by decide +kernel⟩
abbrev s_law : Stmt := topS 79
theorem sc_law : FnScope ["_law_script", "_law_tape_here", "_law_turn", "_law_m", "_law_net_here", "_law_kp", "_law_kq", "_law_told", "_law_known", "_law_x", "_law_y", "_law_u", "_law_v", "_law_other", "_law_k", "_law_spot", "_law_last", "_law_longer"] ["_law_script"] (defScope s_law) := ⟨rfl, rfl, rfl, by decide +kernel, rfl, by decide +kernel, by decide +kernel⟩
structure GlobAt (K : PySem.W.Frag) (mg : Str → Option Value) (x : Str) (d : Dt) where
  a : Addr
  g : mg x = some (.ref a)
  r : ∀ H, Rep K H d (.ref a)
structure IntAt (mg : Str → Option Value) (x : Str) (k : Int) where
  t : Tok
  g : mg x = some (.int k t)
structure Txt (K : PySem.W.Frag) (mg : Str → Option Value) where
  d_common : DefAt K mg "common" s_common ["a", "b"]
  d_poly : DefAt K mg "poly" s_poly ["m", "numbers"]
  d_value : DefAt K mg "value" s_value ["m", "f", "x"]
  d_coefficient_at : DefAt K mg "coefficient_at" s_coefficient_at ["f", "k"]
  d_plus : DefAt K mg "plus" s_plus ["m", "f", "g"]
  d_less : DefAt K mg "less" s_less ["m", "f", "g"]
  d_times : DefAt K mg "times" s_times ["m", "f", "g"]
  d_is_rest : DefAt K mg "is_rest" s_is_rest ["m", "thing"]
  d_is_row : DefAt K mg "is_row" s_is_row ["m", "thing"]
  d_is_poly2 : DefAt K mg "is_poly2" s_is_poly2 ["m", "thing"]
  d_poly2 : DefAt K mg "poly2" s_poly2 ["m", "rows"]
  d_row_of : DefAt K mg "row_of" s_row_of ["P", "i"]
  d_plus2 : DefAt K mg "plus2" s_plus2 ["m", "P", "Q"]
  d_less2 : DefAt K mg "less2" s_less2 ["m", "P", "Q"]
  d_times2 : DefAt K mg "times2" s_times2 ["m", "P", "Q"]
  d_upon2 : DefAt K mg "upon2" s_upon2 ["m", "P", "U", "V"]
  d_in_x : DefAt K mg "in_x" s_in_x ["f"]
  d_rising_product : DefAt K mg "rising_product" s_rising_product ["k"]
  d_top2 : DefAt K mg "top2" s_top2 ["m", "i", "j"]
  d_all_neighbours : DefAt K mg "all_neighbours" s_all_neighbours ["m", "many"]
  d_wide_of : DefAt K mg "wide_of" s_wide_of ["table"]
  d_built : DefAt K mg "built" s_built ["m", "table"]
  d_is_table : DefAt K mg "is_table" s_is_table ["m", "thing"]
  d_row_of_tops : DefAt K mg "row_of_tops" s_row_of_tops ["m", "i", "row"]
  d_lets_null2 : DefAt K mg "lets_null2" s_lets_null2 ["m", "P", "thing"]
  d_parted : DefAt K mg "parted" s_parted ["m", "numbers"]
  d_parts2 : DefAt K mg "parts2" s_parts2 ["m", "P"]
  d_null2_paper : DefAt K mg "null2_paper" s_null2_paper ["m", "P"]
  d_least2 : DefAt K mg "least2" s_least2 ["m", "P"]
  d_is_null2 : DefAt K mg "is_null2" s_is_null2 ["m", "P", "thing"]
  d_has_word : DefAt K mg "has_word" s_has_word ["thing", "word", "many"]
  d_is_shown : DefAt K mg "is_shown" s_is_shown ["m", "thing", "word"]
  d_ask_both : DefAt K mg "ask_both" s_ask_both ["m", "one", "other", "a", "b"]
  d_lets_apart : DefAt K mg "lets_apart" s_lets_apart ["m", "P", "Q", "thing"]
  d_apart_paper : DefAt K mg "apart_paper" s_apart_paper ["m", "P", "Q", "U", "V"]
  d_netted : DefAt K mg "netted" s_netted ["m", "net", "x", "y"]
  d_unnetted : DefAt K mg "unnetted" s_unnetted ["m", "net", "x", "y"]
  d_with_key : DefAt K mg "with_key" s_with_key ["m", "step", "R"]
  d_net_paper : DefAt K mg "net_paper" s_net_paper ["m", "net"]
  d_net_whole : DefAt K mg "net_whole" s_net_whole ["m", "net"]
  d_net_apart : DefAt K mg "net_apart" s_net_apart ["m", "net"]
  d_law_tape : DefAt K mg "_law_tape" s_law_tape ["_law_script"]
  d_law_draw : DefAt K mg "_law_draw" s_law_draw ["_law_tape_here", "_law_many"]
  d_law_trim : DefAt K mg "_law_trim" s_law_trim ["_law_m", "_law_rows"]
  d_law_at : DefAt K mg "_law_at" s_law_at ["_law_m", "_law_kp", "_law_x", "_law_y"]
  d_law_add : DefAt K mg "_law_add" s_law_add ["_law_m", "_law_kp", "_law_kq", "_law_by"]
  d_law_mul : DefAt K mg "_law_mul" s_law_mul ["_law_m", "_law_kp", "_law_kq"]
  d_law_put : DefAt K mg "_law_put" s_law_put ["_law_m", "_law_kp", "_law_ku", "_law_kv"]
  d_law_gcd : DefAt K mg "_law_gcd" s_law_gcd ["_law_one", "_law_other"]
  d_law_top : DefAt K mg "_law_top" s_law_top ["_law_m", "_law_i", "_law_j"]
  d_law_split : DefAt K mg "_law_split" s_law_split ["_law_m", "_law_numbers"]
  d_law_parts : DefAt K mg "_law_parts" s_law_parts ["_law_m", "_law_kp"]
  d_law_unsplit : DefAt K mg "_law_unsplit" s_law_unsplit ["_law_m", "_law_numbers"]
  d_law_sum : DefAt K mg "_law_sum" s_law_sum ["_law_m", "_law_table"]
  d_law_is_rest : DefAt K mg "_law_is_rest" s_law_is_rest ["_law_m", "_law_thing"]
  d_law_is_grid : DefAt K mg "_law_is_grid" s_law_is_grid ["_law_m", "_law_thing"]
  d_law_null_due : DefAt K mg "_law_null_due" s_law_null_due ["_law_m", "_law_kp", "_law_thing"]
  d_law_is : DefAt K mg "_law_is" s_law_is ["_law_m", "_law_thing"]
  d_law_net : DefAt K mg "_law_net" s_law_net ["_law_tape_here", "_law_m", "_law_few", "_law_most"]
  d_law_wide : DefAt K mg "_law_wide" s_law_wide ["_law_m", "_law_kp", "_law_kr", "_law_turn"]
  d_law_least : DefAt K mg "_law_least" s_law_least ["_law_m", "_law_kp"]
  d_law_both : DefAt K mg "_law_both" s_law_both ["_law_m", "_law_net_here"]
  d_law_paper_right : DefAt K mg "_law_paper_right" s_law_paper_right ["_law_m", "_law_kp", "_law_kq", "_law_thing"]
  b_abs : mg "abs" = none
  b_len : mg "len" = none
  b_reversed : mg "reversed" = none
  b_range : mg "range" = none
  b_max : mg "max" = none
  b_min : mg "min" = none
  b_tuple : mg "tuple" = none
  b_isinstance : mg "isinstance" = none
  b_all : mg "all" = none
  b_any : mg "any" = none
  b_list : mg "list" = none
  b_enumerate : mg "enumerate" = none
  b_zip : mg "zip" = none
  b_int : mg "int" = none
  b_repr : mg "repr" = none
  b_bool : mg "bool" = none
  b_str : mg "str" = none
  c_MOST_ROWS : IntAt mg "MOST_ROWS" 80
  c_ONLY_X : GlobAt K mg "ONLY_X" (tP [[], [1]])
  c_ONLY_Y : GlobAt K mg "ONLY_Y" (tP [[0, 1]])
end Nf

local macro_rules | `(tactic| walk_at "ev") => `(tactic| repeat (first
  | ((with_reducible refine Nf.ev_var2 ?_); refine ⟨_, rfl, ?_⟩) | with_reducible refine Nf.ev_op ?_ | with_reducible refine Nf.ev_int ?_ | with_reducible refine Nf.ea_cons ?_ | with_reducible refine Nf.ea_nil ?_ | with_reducible refine Nf.ev_isi ?_ | with_reducible refine Nf.ev_cb ?_
  | with_reducible refine Nf.rv_add ?_ | with_reducible refine Nf.rv_sub ?_ | with_reducible refine Nf.rv_lt ?_ | with_reducible refine Nf.rv_le ?_ | with_reducible refine Nf.rv_gt ?_ | with_reducible refine Nf.rv_ge ?_ | with_reducible refine Nf.rv_eq ?_ | with_reducible refine Nf.rv_ne ?_ | with_reducible refine Nf.rv_eqs ?_ | with_reducible refine Nf.rv_nes ?_
  | ((with_reducible refine Nf.rv_mod ?_ ?_); (focus first | assumption | omega)) | with_reducible refine Nf.rv_isB ?_ | with_reducible refine Nf.rv_notB ?_
  | with_reducible refine Nf.ev_un ?_ | with_reducible refine Nf.ru_neg ?_ | with_reducible refine Nf.ev_bl ?_ | with_reducible refine Nf.ev_str ?_ | with_reducible refine Nf.ev_non ?_ | with_reducible refine Nf.ev_tup ?_
  | with_reducible refine Nf.rk_len Nf.sv_t ?_ | with_reducible refine Nf.rk_len Nf.sv_l ?_ | with_reducible refine Nf.rc_max ?_ | with_reducible refine Nf.rc_min ?_ | with_reducible refine Nf.rc_abs ?_ | with_reducible refine Nf.rc_intB ?_
  | with_reducible refine Nf.ex_b ?_ | with_reducible refine Nf.et_test ?_ | with_reducible refine Nf.et_B ?_ | with_reducible refine Nf.et_not ?_ | with_reducible refine Nf.et_and ?_ | with_reducible refine Nf.et_or ?_ | with_reducible refine Nf.et_yes ?_
  | with_reducible refine Nf.ff2 ?_ | with_reducible refine Nf.tt2 ?_ | with_reducible refine Nf.ff3 ?_ | with_reducible refine Nf.tt3 ?_ | with_reducible refine Nf.len0 ?_ | with_reducible refine Nf.len1 ?_ | with_reducible refine Nf.len2 ?_ | with_reducible refine Nf.len3 ?_ | with_reducible refine Nf.len5 ?_ | with_reducible refine Nf.nf2 ?_ | with_reducible refine Nf.nt2 ?_ | with_reducible refine Nf.nf3 ?_ | with_reducible refine Nf.nt3 ?_
  | with_reducible refine Nf.wp_seq ?_ | with_reducible refine Nf.wp_asg ?_ | with_reducible refine Nf.wp_ret ?_ | with_reducible refine Nf.wp_if ?_ | with_reducible refine Nf.wp_drop ?_
  | refine ⟨_, _, rfl, Nf.isi_ii, ?_⟩ | refine ⟨_, _, rfl, Nf.isi_ib, ?_⟩ | refine ⟨_, _, rfl, Nf.isi_tt, ?_⟩ | refine ⟨_, _, rfl, Nf.isi_ss, ?_⟩
  | with_reducible refine Nf.ev_if ?_ | with_reducible refine Nf.ev_call ?_ | with_reducible refine Nf.ev_and ?_ | with_reducible refine Nf.ev_or ?_ | with_reducible refine Nf.ev_not ?_ | with_reducible refine Nf.ev_chain ?_))
set_option Elab.async false
set_option linter.all false
set_option maxRecDepth 100000
set_option maxHeartbeats 4000000
namespace Nf
open PySem PySem.Spec PyProof.Rows L2 RT RZ Mz
section
variable {P : Program} {w : World} {K : PySem.W.Frag} {mg : Str → Option Value} {base : Heap}
def R_common (ds : List Dt) (r : Dt) : Prop := ∃ a b : Int, ds = [.i a, .i b] ∧ r = .i (Int.gcd a b)
theorem ok_common (T : Txt K mg) : FnOk P w K mg base CX0 1 T.d_common.f T.d_common.fd ["a", "b"] (spP K R_common) := by
  refine okP T.d_common.F sc_common (fun ds r h => ?_) (fun cdv A outer s H E hr => ⟨_, (pss_cons (ps_set (i := 0) sc_common.nd rfl (.inl rfl) (pe_callB call_abs (by rfl) T.b_abs (by decide +kernel) (pa_cons (pv 0) pa_nil)))
      (pss_cons (ps_set (i := 1) sc_common.nd rfl (.inl rfl) (pe_callB call_abs (by rfl) T.b_abs (by decide +kernel) (pa_cons (pv 1) pa_nil)))
      (pss_cons (ps_while PassesOwn.never (pt_cmpR op_gt (pv 1) pe_int (nomark _)) (pss_cons (ps_set (i := 2) sc_common.nd rfl (.inl rfl) (pe_op op_mod (pv 0) (pv 1)))
      (pss_cons (ps_set (i := 0) sc_common.nd rfl (.inl rfl) (pv 1))
      (pss_one (ps_set (i := 1) sc_common.nd rfl (.inl rfl) (pv 2))))))
      (pss_one (ps_ret (pv 0)))))), fun ds r h => ?_⟩)
  · obtain ⟨a, b, rfl, rfl⟩ := h; rfl
  · obtain ⟨a, b, rfl, rfl⟩ := h
    walk_at "ev"
    refine wp_while (fun m sl _ => ∃ (x y : Nat) (z : Option Dt), sl = [some (.i x), some (.i y), z] ∧ Nat.gcd x y = Int.gcd a b ∧ y = m) ⟨_, a.natAbs, b.natAbs, none, rfl, rfl, rfl⟩ ?_
    rintro m sl S ⟨x, y, z, rfl, e, rfl⟩
    walk_at "ev"
    refine ⟨fun h => ?_, fun h => ?_⟩
    · have hy : 0 < y := by have := of_decide_eq_true h; omega
      walk_at "ev"
      refine ⟨x % y, Nat.mod_lt x hy, y, x % y, _, rfl, ?_, rfl⟩
      rw [← e, Nat.gcd_comm y, ← Nat.gcd_rec, Nat.gcd_comm]
    · have hy : y = 0 := by have := of_decide_eq_false h; omega
      subst hy
      walk_at "ev"
      rw [← e, Nat.gcd_zero_right]
def R_poly (ds : List Dt) (r : Dt) : Prop := ∃ (m : Int) (xs : List Int) (d : Dt), ds = [.i m, d] ∧ (d = tI xs ∨ d = lI xs) ∧ 0 < m ∧ xs.length ≤ 100000 ∧ r = tI (pol m xs)
theorem ok_poly (T : Txt K mg) : FnOk P w K mg base CX0 1 T.d_poly.f T.d_poly.fd ["m", "numbers"] (spP K R_poly) := by
  refine okP T.d_poly.F sc_poly (fun ds r h => ?_) (fun cdv A outer s H E hr => ⟨_, (pss_cons (ps_setLc (i := 2) (own := [("number", 3)]) rfl sc_poly.nd rfl rfl (sw_true rfl rfl rfl (by decide +kernel)) (k_seq K (pv 1)) (blkOk_by (by kernel_rfl)) (fun _ _ _ _ _ => (pg_name (i := 3) sc_poly.nd rfl (.inl rfl))) (fun _ _ _ _ _ => pts_nil) (fun _ _ _ _ _ => (pe_op op_mod (pv 3) (pv 0))))
      (pss_cons (ps_while PassesOwn.never (PW.pt (pw_and (pt_cmpR op_gt (pe_callB (k_len K) (by rfl) T.b_len (by decide +kernel) (pa_cons (pv 2) pa_nil)) pe_int (nomark _)) (pw_and1 (pt_cmpR (k_eq K hr.units) (pe_ix (k_ix K) (pv 2) (pe_un un_neg pe_int) (fun _ _ => rfl)) pe_int (nomark _))))) (pss_one (ps_expr (k_pop K (pv 2)))))
      (pss_one (ps_ret (pe_callTy (k_tuple K) (by rfl) T.b_tuple (by decide +kernel) (pa_cons (pv 2) pa_nil)))))), fun ds r h => ?_⟩)
  · obtain ⟨m, xs, d, rfl, _⟩ := h; rfl
  · obtain ⟨m, xs, d, rfl, hd, hm, hl, rfl⟩ := h
    refine wp_seq (wp_asg (ev_lc (α := Int) tg_name (by simp) (ei_seq (ev_var rfl ⟨xs.map Dt.i, hd, xs, Dt.i, fun x => Dt.i (x % m), rfl, hl, fun x hx => ⟨_, rfl, ?_⟩, Or.inr fun p hp => ?_⟩))))
    · walk_at "ev"
      exact ⟨rfl, rfl⟩
    refine wp_seq (wp_while (fun k sl S => ∃ ys : List Int, sl = [some (.i m), some d, some (.a p), none] ∧ S p = some (.l (ys.map Dt.i)) ∧ ys.length = k ∧ trm isZ ys = pol m xs) ⟨_, xs.map (· % m), rfl, by rw [put_same, List.map_map]; rfl, rfl, rfl⟩ ?_)
    rintro k sl S ⟨ys, rfl, hS, rfl, ht⟩
    walk_at "ev"
    refine rk_len (sv_a hS) ?_
    walk_at "ev"
    refine ⟨fun h => ?_, fun h => ?_⟩
    · have hne : ys ≠ [] := fun z => by subst z; exact absurd (of_decide_eq_true h) (by decide)
      obtain ⟨zs, x, rfl⟩ := snoc_of hne
      rw [map_snoc] at hS
      walk_at "ev"
      refine rv_ix (sv_a hS) atI_back ?_
      walk_at "ev"
      refine ⟨fun h2 => ?_, fun h2 => ?_⟩
      · have hx : x = 0 := of_decide_eq_true h2
        subst hx
        refine wp_drop (ev_pop (ev_var rfl ⟨p, _, _, rfl, hS, ?_⟩))
        refine ⟨zs.length, by simp, zs, rfl, put_same, rfl, ?_⟩
        rw [← ht, trm_snoc]; rfl
      · have hx : ¬ x = 0 := of_decide_eq_false h2
        walk_at "ev"
        refine rk_tuple (sv_a hS) ?_
        rw [← ht, trm_snoc, if_neg (by unfold isZ; simpa using hx)]
        unfold tI
        rw [map_snoc]
    · have hne : ys = [] := by
        cases ys with
        | nil => rfl
        | cons y ys => exact absurd (of_decide_eq_false h) (by simp)
      subst hne
      walk_at "ev"
      refine rk_tuple (sv_a hS) ?_
      rw [← ht]; rfl
def R_value (ds : List Dt) (r : Dt) : Prop := ∃ (m : Int) (f : List Int) (x : Int), ds = [.i m, tI f, .i x] ∧ 0 < m ∧ (∀ c ∈ f, 0 ≤ c ∧ c < m) ∧ m ≤ 1000 ∧ r = .i (val m f x)
theorem ok_value (T : Txt K mg) : FnOk P w K mg base CX0 1 T.d_value.f T.d_value.fd ["m", "f", "x"] (spP K R_value) := by
  refine okP T.d_value.F sc_value (fun ds r h => ?_) (fun cdv A outer s H E hr => ⟨_, (pss_cons (ps_set (i := 3) sc_value.nd rfl (.inl rfl) pe_int)
      (pss_cons (ps_for PassesOwn.never rfl (k_rev K (by rfl) T.b_reversed (pv 1)) (pg_name (i := 4) sc_value.nd rfl (.inl rfl)) (pss_one (ps_set (i := 3) sc_value.nd rfl (.inl rfl) (pe_op op_mod (pe_op (k_add K) (pe_op op_mulA (pv 3) (pv 2)) (pv 4)) (pv 0)))))
      (pss_one (ps_ret (pv 3))))), fun ds r h => ?_⟩)
  · obtain ⟨m, f, x, rfl, _⟩ := h; rfl
  · obtain ⟨m, f, x, rfl, hm, hf, hm2, rfl⟩ := h
    walk_at "ev"
    refine wp_forM (α := Int) tg_name (ei_rev (ev_var rfl ⟨f.map Dt.i, .inr rfl, f.reverse, Dt.i, fun r sl S => ∃ (acc : Int) (y : Option Dt), sl = [some (.i m), some (tI f), some (.i x), some (.i acc), y] ∧ 0 ≤ acc ∧ acc ≤ 1000 ∧ r.foldl (fun acc c => (acc * x + c) % m) acc = val m f x, by rw [List.map_reverse], ⟨0, none, rfl, by omega, by omega, rfl⟩, ?_, ?_⟩))
    · rintro c r sl S hc ⟨acc, y, rfl, h0, h1, e⟩
      refine ⟨_, rfl, ?_⟩
      walk_at "ev"
      refine rv_mulS (.inl ⟨by omega, by omega⟩) ?_
      walk_at "ev"
      have b1 := Int.emod_nonneg (acc * x + c) (show m ≠ 0 by omega)
      have b2 := Int.emod_lt_of_pos (acc * x + c) hm
      exact ⟨(acc * x + c) % m, _, rfl, b1, by omega, e⟩
    · rintro sl S ⟨acc, y, rfl, h0, h1, e⟩
      walk_at "ev"
      have e' : acc = val m f x := e
      rw [e']
def R_coefficient_at (ds : List Dt) (r : Dt) : Prop := ∃ (f : List Int) (k : Nat), ds = [tI f, .i k] ∧ r = .i (co f k)
theorem ok_coefficient_at (T : Txt K mg) : FnOk P w K mg base CX0 1 T.d_coefficient_at.f T.d_coefficient_at.fd ["f", "k"] (spP K R_coefficient_at) := by
  refine okP T.d_coefficient_at.F sc_coefficient_at (fun ds r h => ?_) (fun cdv A outer s H E hr => ⟨_, (pss_one (ps_ret (pe_ifExp (pt_cmpR op_lt (pv 1) (pe_callB (k_len K) (by rfl) T.b_len (by decide +kernel) (pa_cons (pv 0) pa_nil)) (nomark _)) (pe_ix (k_ix K) (pv 0) (pv 1) (fun _ _ => rfl)) pe_int))), fun ds r h => ?_⟩)
  · obtain ⟨f, k, rfl, _⟩ := h; rfl
  · obtain ⟨f, k, rfl, rfl⟩ := h
    walk_at "ev"
    refine ⟨fun h => ?_, fun h => ?_⟩
    · have hk : k < f.length := by have := of_decide_eq_true h; simp at this; omega
      walk_at "ev"
      exact rv_ix sv_t (atI_nn rfl (co_at hk)) rfl
    · have hk : ¬ k < f.length := by have := of_decide_eq_false h; simp at this; omega
      walk_at "ev"
      rw [co_out hk]
end
end Nf

set_option Elab.async false
set_option linter.all false
set_option maxRecDepth 100000
set_option maxHeartbeats 4000000
namespace Nf
open PySem PySem.Spec PyProof.Rows L2 RT RZ Mz
section
variable {P : Program} {w : World} {K : PySem.W.Frag} {mg : Str → Option Value} {base : Heap}
def R_plus (ds : List Dt) (r : Dt) : Prop := ∃ (m : Int) (f g : List Int), ds = [.i m, tI f, tI g] ∧ 0 < m ∧ f.length ≤ 50000 ∧ g.length ≤ 50000 ∧ r = tI (plusM m f g)
theorem ok_plus (T : Txt K mg) : FnOk P w K mg base CX0 2 T.d_plus.f T.d_plus.fd ["m", "f", "g"] (spP K R_plus) := by
  refine okP T.d_plus.F sc_plus (fun ds r h => ?_) (fun cdv A outer s H E hr => ⟨_, (pss_one (ps_ret (pe_call (ok_poly T) (hr.mono (by decide)) (by rfl) T.d_poly.g T.d_poly.F.kp T.d_poly.b .nil pass0 (pa_cons (pv 0) (pa_cons (pe_lc (own := [("k", 3)]) rfl sc_plus.nd (pi_range1 (by rfl) T.b_range (pa_cons (pe_callB (call_max2 rfl) (by rfl) T.b_max (by decide +kernel) (pa_cons (pe_callB (k_len K) (by rfl) T.b_len (by decide +kernel) (pa_cons (pv 1) pa_nil)) (pa_cons (pe_callB (k_len K) (by rfl) T.b_len (by decide +kernel) (pa_cons (pv 2) pa_nil)) pa_nil))) pa_nil)) (blkOk_by (by kernel_rfl)) (fun _ _ _ _ _ => (pg_name (i := 3) sc_plus.nd rfl (.inl rfl))) (fun _ _ _ _ _ => pts_nil) (fun _ _ _ _ _ => (pe_op (k_add K) (pe_call (ok_coefficient_at T) (hr.mono (by decide)) (by rfl) T.d_coefficient_at.g T.d_coefficient_at.F.kp T.d_coefficient_at.b .nil pass0 (pa_cons (pv 1) (pa_cons (pv 3) pa_nil))) (pe_call (ok_coefficient_at T) (hr.mono (by decide)) (by rfl) T.d_coefficient_at.g T.d_coefficient_at.F.kp T.d_coefficient_at.b .nil pass0 (pa_cons (pv 2) (pa_cons (pv 3) pa_nil)))))) pa_nil))))), fun ds r h => ?_⟩)
  · obtain ⟨m, f, g, rfl, _⟩ := h; rfl
  · obtain ⟨m, f, g, rfl, hm, hf, hg, rfl⟩ := h
    walk_at "ev"
    refine ev_lcN (by simp) ?_
    walk_at "ev"
    refine ⟨max f.length g.length, fun k => .i (co f k + co g k), by congr 2; rw [List.length_map, List.length_map]; omega, by omega, fun k hk => ?_, .inl ?_⟩
    · walk_at "ev"
      refine ⟨_, ⟨f, k, rfl, rfl⟩, ?_⟩
      walk_at "ev"
      refine ⟨_, ⟨g, k, rfl, rfl⟩, ?_⟩
      walk_at "ev"
      exact ⟨rfl, rfl⟩
    · walk_at "ev"
      exact ⟨_, ⟨m, (List.range (max f.length g.length)).map fun k => co f k + co g k, _, rfl, .inr (by unfold lI; rw [List.map_map]; rfl), hm, by rw [List.length_map, List.length_range]; omega, rfl⟩, rfl⟩
def R_less (ds : List Dt) (r : Dt) : Prop := ∃ (m : Int) (f g : List Int), ds = [.i m, tI f, tI g] ∧ 0 < m ∧ f.length ≤ 50000 ∧ g.length ≤ 50000 ∧ r = tI (lessM m f g)
theorem ok_less (T : Txt K mg) : FnOk P w K mg base CX0 2 T.d_less.f T.d_less.fd ["m", "f", "g"] (spP K R_less) := by
  refine okP T.d_less.F sc_less (fun ds r h => ?_) (fun cdv A outer s H E hr => ⟨_, (pss_one (ps_ret (pe_call (ok_poly T) (hr.mono (by decide)) (by rfl) T.d_poly.g T.d_poly.F.kp T.d_poly.b .nil pass0 (pa_cons (pv 0) (pa_cons (pe_lc (own := [("k", 3)]) rfl sc_less.nd (pi_range1 (by rfl) T.b_range (pa_cons (pe_callB (call_max2 rfl) (by rfl) T.b_max (by decide +kernel) (pa_cons (pe_callB (k_len K) (by rfl) T.b_len (by decide +kernel) (pa_cons (pv 1) pa_nil)) (pa_cons (pe_callB (k_len K) (by rfl) T.b_len (by decide +kernel) (pa_cons (pv 2) pa_nil)) pa_nil))) pa_nil)) (blkOk_by (by kernel_rfl)) (fun _ _ _ _ _ => (pg_name (i := 3) sc_less.nd rfl (.inl rfl))) (fun _ _ _ _ _ => pts_nil) (fun _ _ _ _ _ => (pe_op op_sub (pe_call (ok_coefficient_at T) (hr.mono (by decide)) (by rfl) T.d_coefficient_at.g T.d_coefficient_at.F.kp T.d_coefficient_at.b .nil pass0 (pa_cons (pv 1) (pa_cons (pv 3) pa_nil))) (pe_call (ok_coefficient_at T) (hr.mono (by decide)) (by rfl) T.d_coefficient_at.g T.d_coefficient_at.F.kp T.d_coefficient_at.b .nil pass0 (pa_cons (pv 2) (pa_cons (pv 3) pa_nil)))))) pa_nil))))), fun ds r h => ?_⟩)
  · obtain ⟨m, f, g, rfl, _⟩ := h; rfl
  · obtain ⟨m, f, g, rfl, hm, hf, hg, rfl⟩ := h
    walk_at "ev"
    refine ev_lcN (by simp) ?_
    walk_at "ev"
    refine ⟨max f.length g.length, fun k => .i (co f k - co g k), by congr 2; rw [List.length_map, List.length_map]; omega, by omega, fun k hk => ?_, .inl ?_⟩
    · walk_at "ev"
      refine ⟨_, ⟨f, k, rfl, rfl⟩, ?_⟩
      walk_at "ev"
      refine ⟨_, ⟨g, k, rfl, rfl⟩, ?_⟩
      walk_at "ev"
      exact ⟨rfl, rfl⟩
    · walk_at "ev"
      exact ⟨_, ⟨m, (List.range (max f.length g.length)).map fun k => co f k - co g k, _, rfl, .inr (by unfold lI; rw [List.map_map]; rfl), hm, by rw [List.length_map, List.length_range]; omega, rfl⟩, rfl⟩
def R_times (ds : List Dt) (r : Dt) : Prop := ∃ (m : Int) (f g : List Int), ds = [.i m, tI f, tI g] ∧ 0 < m ∧ m ≤ 1000 ∧ Red m f ∧ f.length ≤ 50000 ∧ g.length ≤ 50000 ∧ r = tI (timesM m f g)
theorem ok_times (T : Txt K mg) : FnOk P w K mg base CX0 2 T.d_times.f T.d_times.fd ["m", "f", "g"] (spP K R_times) := by
  refine okP T.d_times.F sc_times (fun ds r h => ?_) (fun cdv A outer s H E hr => ⟨_, (pss_cons (ps_set (i := 3) sc_times.nd rfl (.inl rfl) (pe_op op_mulA (pe_lst (pa_cons pe_int pa_nil)) (pe_op (k_add K) (pe_callB (k_len K) (by rfl) T.b_len (by decide +kernel) (pa_cons (pv 1) pa_nil)) (pe_callB (k_len K) (by rfl) T.b_len (by decide +kernel) (pa_cons (pv 2) pa_nil)))))
      (pss_cons (ps_for PassesOwn.never rfl (pi_range1 (by rfl) T.b_range (pa_cons (pe_callB (k_len K) (by rfl) T.b_len (by decide +kernel) (pa_cons (pv 1) pa_nil)) pa_nil)) (pg_name (i := 4) sc_times.nd rfl (.inl rfl)) (pss_one (ps_for PassesOwn.never rfl (pi_range1 (by rfl) T.b_range (pa_cons (pe_callB (k_len K) (by rfl) T.b_len (by decide +kernel) (pa_cons (pv 2) pa_nil)) pa_nil)) (pg_name (i := 5) sc_times.nd rfl (.inl rfl)) (pss_one (ps_asg (pe_op op_mod (pe_op (k_add K) (pe_ix (k_ix K) (pv 3) (pe_op (k_add K) (pv 4) (pv 5)) (fun _ _ => rfl)) (pe_op op_mulA (pe_ix (k_ix K) (pv 1) (pv 4) (fun _ _ => rfl)) (pe_ix (k_ix K) (pv 2) (pv 5) (fun _ _ => rfl)))) (pv 0)) (pg_sub (pv 3) (pe_op (k_add K) (pv 4) (pv 5)) set_list))))))
      (pss_one (ps_ret (pe_call (ok_poly T) (hr.mono (by decide)) (by rfl) T.d_poly.g T.d_poly.F.kp T.d_poly.b .nil pass0 (pa_cons (pv 0) (pa_cons (pv 3) pa_nil))))))), fun ds r h => ?_⟩)
  · obtain ⟨m, f, g, rfl, _⟩ := h; rfl
  · obtain ⟨m, f, g, rfl, hm, hm2, hr', hf, hg, rfl⟩ := h
    walk_at "ev"
    refine ev_lstA ?_
    walk_at "ev"
    intro p0 hp0
    walk_at "ev"
    refine rv_mulN (ds := [.i 0]) (n := f.length + g.length) ⟨_, rfl, put_same⟩ (by simp) (by simp; omega) (by omega) (.inr fun p hp => ?_)
    rw [rep_one, rep_ints]
    walk_at "ev"
    refine wp_forN ?_
    walk_at "ev"
    refine ⟨f.length, fun r sl S => ∃ (acc : List Int) (y4 y5 : Option Dt), sl = [some (.i m), some (tI f), some (tI g), some (.a p), y4, y5] ∧ S p = some (.l (acc.map Dt.i)) ∧ acc.length = f.length + g.length ∧
      r.foldl (fun acc i => (List.range g.length).foldl (fun acc j => acc.set (i + j) ((co acc (i + j) + co f i * co g j) % m)) acc) acc = mulL m f g, by simp, by omega, ⟨_, none, none, rfl, put_same, by simp, rfl⟩, fun i r sl S hi => ?_, fun sl S => ?_⟩
    · rintro ⟨acc, y4, y5, rfl, hS, hl, e⟩
      refine wp_forN ?_
      walk_at "ev"
      refine ⟨g.length, fun r' sl S => ∃ (acc' : List Int) (y5 : Option Dt), sl = [some (.i m), some (tI f), some (tI g), some (.a p), some (.i i), y5] ∧ S p = some (.l (acc'.map Dt.i)) ∧ acc'.length = f.length + g.length ∧
        r'.foldl (fun acc j => acc.set (i + j) ((co acc (i + j) + co f i * co g j) % m)) acc' = (List.range g.length).foldl (fun acc j => acc.set (i + j) ((co acc (i + j) + co f i * co g j) % m)) acc, by simp, by omega, ⟨acc, y5, rfl, hS, hl, rfl⟩, fun j r' sl S hj => ?_, fun sl S => ?_⟩
      · rintro ⟨acc', y5, rfl, hS', hl', e'⟩
        have hij : i + j < acc'.length := by omega
        refine wp_setL ?_
        walk_at "ev"
        refine rv_ix (sv_a hS') (atI_nn (j := i + j) (by omega) (co_at hij)) ?_
        walk_at "ev"
        refine rv_ix sv_t (atI_nn rfl (co_at hi)) ?_
        walk_at "ev"
        refine rv_ix sv_t (atI_nn rfl (co_at hj)) ?_
        have hb := hr'.at hi
        refine rv_mulS (.inl ⟨by omega, by omega⟩) ?_
        walk_at "ev"
        refine ⟨p, _, _, i + j, rfl, rfl, hS', ixN_nn (by omega) (by rw [List.length_map]; exact hij), ?_⟩
        exact ⟨_, _, rfl, by rw [put_same, co_set], by rw [List.length_set]; exact hl', e'⟩
      · rintro ⟨acc', y5, rfl, hS', hl', e'⟩
        have e2 : acc' = (List.range g.length).foldl (fun acc j => acc.set (i + j) ((co acc (i + j) + co f i * co g j) % m)) acc := e'
        exact ⟨acc', _, _, rfl, hS', hl', by rw [e2]; exact e⟩
    · rintro ⟨acc, y4, y5, rfl, hS, hl, e⟩
      refine wp_freeze (i := 3) rfl hS ?_
      walk_at "ev"
      refine ⟨_, ⟨m, acc, _, rfl, .inr rfl, hm, by omega, rfl⟩, ?_⟩
      have e2 : acc = mulL m f g := e
      rw [e2]; rfl
def R_is_rest (ds : List Dt) (r : Dt) : Prop := ∃ (m x : Int), ds = [.i m, .i x] ∧ 0 ≤ x ∧ x < m ∧ r = .b true
theorem ok_is_rest (T : Txt K mg) : FnOk P w K mg base CX0 1 T.d_is_rest.f T.d_is_rest.fd ["m", "thing"] (spP K R_is_rest) := by
  refine okP T.d_is_rest.F sc_is_rest (fun ds r h => ?_) (fun cdv A outer s H E hr => ⟨_, (pss_one (ps_ret (pe_and (pe_callB (k_isi K) (by rfl) T.b_isinstance (by decide +kernel) (pa_cons (pv 1) (pa_cons (pe_bltn (v := .ty "int") (by rfl) T.b_int (by decide +kernel) rfl) pa_nil))) (pe_and (pe_not (pe_callB (k_isi K) (by rfl) T.b_isinstance (by decide +kernel) (pa_cons (pv 1) (pa_cons (pe_bltn (v := .ty "bool") (by rfl) T.b_bool (by decide +kernel) rfl) pa_nil)))) (pe_one (pe_chain op_le op_lt pe_int (pv 1) (pv 0))))))), fun ds r h => ?_⟩)
  · obtain ⟨m, x, rfl, _⟩ := h; rfl
  · obtain ⟨m, x, rfl, h0, h1, rfl⟩ := h
    walk_at "ev"
    refine dd2 (fun _ => ?_) (fun z => absurd h0 z)
    walk_at "ev"
    rw [decide_eq_true h1]
def R_is_row (ds : List Dt) (r : Dt) : Prop := ∃ (m : Int) (f : List Int), ds = [.i m, tI f] ∧ Cn m f ∧ f.length ≤ 100000 ∧ r = .b true
theorem ok_is_row (T : Txt K mg) : FnOk P w K mg base CX0 2 T.d_is_row.f T.d_is_row.fd ["m", "thing"] (spP K R_is_row) := by
  refine okP T.d_is_row.F sc_is_row (fun ds r h => ?_) (fun cdv A outer s H E hr => ⟨_, (pss_cons (ps_if (PW.pt (pw_or (pt_not (pt_val (pe_callB (k_isi K) (by rfl) T.b_isinstance (by decide +kernel) (pa_cons (pv 1) (pa_cons (pe_bltn (v := .ty "tuple") (by rfl) T.b_tuple (by decide +kernel) rfl) pa_nil))))) (pw_or1 (pt_not (pt_val (pe_callB (k_all K) (by rfl) T.b_all (by decide +kernel) (pa_cons (pe_lc (own := [("one", 2)]) rfl sc_is_row.nd (k_seq K (pv 1)) (blkOk_by (by kernel_rfl)) (fun _ _ _ _ _ => (pg_name (i := 2) sc_is_row.nd rfl (.inl rfl))) (fun _ _ _ _ _ => pts_nil) (fun _ _ _ _ _ => (pe_call (ok_is_rest T) (hr.mono (by decide)) (by rfl) T.d_is_rest.g T.d_is_rest.F.kp T.d_is_rest.b .nil pass0 (pa_cons (pv 0) (pa_cons (pv 2) pa_nil))))) pa_nil))))))) (pss_one (ps_ret pe_bl)) pss_nil)
      (pss_one (ps_ret (pe_or (pe_cmpR (k_eq K hr.units) (pv 1) (pe_tup pa_nil) (nomark _)) (pe_one (pe_cmpR (k_ne K hr.units) (pe_ix (k_ix K) (pv 1) (pe_un un_neg pe_int) (fun _ _ => rfl)) pe_int (nomark _))))))), fun ds r h => ?_⟩)
  · obtain ⟨m, f, rfl, _⟩ := h; rfl
  · obtain ⟨m, f, rfl, hc, hl, rfl⟩ := h
    walk_at "ev"
    refine ev_lc (α := Int) tg_name (by simp) (ei_seq ?_)
    walk_at "ev"
    refine ⟨f.map Dt.i, .inl rfl, f, Dt.i, fun _ => .b true, rfl, hl, fun x hx => ⟨_, rfl, ?_⟩, .inl ?_⟩
    · walk_at "ev"
      exact ⟨_, ⟨m, x, rfl, (hc.1 x hx).1, (hc.1 x hx).2, rfl⟩, rfl, rfl⟩
    walk_at "ev"
    refine rc_all (bs := f.map fun _ => true) (.inl (by rw [List.map_map]; rfl)) ?_
    have e : (f.map fun _ => true).all id = true := by simp
    rw [e]
    walk_at "ev"
    refine wp_next ?_
    walk_at "ev"
    refine rv_eqd pl_tI pl_nilT (by decide) (by decide) (n := 1) (m := 1) (fun e => ?_) (fun e => ?_)
    · walk_at "ev"
      rfl
    · walk_at "ev"
      have hne : f ≠ [] := fun z => e (by rw [z]; rfl)
      obtain ⟨zs, x, rfl⟩ := snoc_of hne
      refine rv_ix sv_t atI_last ?_
      walk_at "ev"
      have := trm_last hc.2
      rw [show decide (x = 0) = false by simpa [isZ] using this]; rfl
end
end Nf

set_option Elab.async false
set_option linter.all false
set_option maxRecDepth 100000
set_option maxHeartbeats 4000000
namespace Nf
open PySem PySem.Spec PyProof.Rows L2 RT RZ Mz
section
variable {P : Program} {w : World} {K : PySem.W.Frag} {mg : Str → Option Value} {base : Heap}
def R_is_poly2 (ds : List Dt) (r : Dt) : Prop := ∃ (m : Int) (A : List (List Int)), ds = [.i m, tP A] ∧ Cn2 m A ∧ Sz 100000 A ∧ r = .b true
theorem ok_is_poly2 (T : Txt K mg) : FnOk P w K mg base CX0 3 T.d_is_poly2.f T.d_is_poly2.fd ["m", "thing"] (spP K R_is_poly2) := by
  refine okP T.d_is_poly2.F sc_is_poly2 (fun ds r h => ?_) (fun cdv A outer s H E hr => ⟨_, (pss_cons (ps_if (PW.pt (pw_or (pt_not (pt_val (pe_callB (k_isi K) (by rfl) T.b_isinstance (by decide +kernel) (pa_cons (pv 1) (pa_cons (pe_bltn (v := .ty "tuple") (by rfl) T.b_tuple (by decide +kernel) rfl) pa_nil))))) (pw_or1 (pt_not (pt_val (pe_callB (k_all K) (by rfl) T.b_all (by decide +kernel) (pa_cons (pe_lc (own := [("row", 2)]) rfl sc_is_poly2.nd (k_seq K (pv 1)) (blkOk_by (by kernel_rfl)) (fun _ _ _ _ _ => (pg_name (i := 2) sc_is_poly2.nd rfl (.inl rfl))) (fun _ _ _ _ _ => pts_nil) (fun _ _ _ _ _ => (pe_call (ok_is_row T) (hr.mono (by decide)) (by rfl) T.d_is_row.g T.d_is_row.F.kp T.d_is_row.b .nil pass0 (pa_cons (pv 0) (pa_cons (pv 2) pa_nil))))) pa_nil))))))) (pss_one (ps_ret pe_bl)) pss_nil)
      (pss_one (ps_ret (pe_or (pe_cmpR (k_eq K hr.units) (pv 1) (pe_tup pa_nil) (nomark _)) (pe_one (pe_cmpR (k_ne K hr.units) (pe_ix (k_ix K) (pv 1) (pe_un un_neg pe_int) (fun _ _ => rfl)) (pe_tup pa_nil) (nomark _))))))), fun ds r h => ?_⟩)
  · obtain ⟨m, f, rfl, _⟩ := h; rfl
  · obtain ⟨m, A, rfl, hc, hl, rfl⟩ := h
    walk_at "ev"
    refine ev_lc (α := List Int) tg_name (by simp) (ei_seq ?_)
    walk_at "ev"
    refine ⟨A.map tI, .inl rfl, A, tI, fun _ => .b true, rfl, hl.1, fun x hx => ⟨_, rfl, ?_⟩, .inl ?_⟩
    · walk_at "ev"
      exact ⟨_, ⟨m, x, rfl, hc.1 x hx, hl.2 x hx, rfl⟩, rfl, rfl⟩
    walk_at "ev"
    refine rc_all (bs := A.map fun _ => true) (.inl (by rw [List.map_map]; rfl)) ?_
    have e : (A.map fun _ => true).all id = true := by simp
    rw [e]
    walk_at "ev"
    refine wp_next ?_
    walk_at "ev"
    refine rv_eqd pl_tP pl_nilT (by decide) (by decide) (n := 2) (m := 2) (fun e => ?_) (fun e => ?_)
    · walk_at "ev"
      rfl
    · walk_at "ev"
      have hne : A ≠ [] := fun z => e (by rw [z]; rfl)
      obtain ⟨zs, x, rfl⟩ := snoc_of hne
      refine rv_ix sv_t atI_last ?_
      walk_at "ev"
      have h3 := trm_last hc.2
      refine rv_ned pl_tI pl_nilT (by decide) (by decide) (n := 1) (m := 1) (fun e => ?_) (fun e => rfl)
      have e2 : x = [] := tI_inj e
      subst e2
      cases h3
def R_poly2 (ds : List Dt) (r : Dt) : Prop := ∃ (m : Int) (A : List (List Int)) (d : Dt), ds = [.i m, d] ∧ (d = lT A ∨ d = lL A) ∧ 0 < m ∧ Sz 100000 A ∧ r = tP (pol2 m A)
theorem ok_poly2 (T : Txt K mg) : FnOk P w K mg base CX0 2 T.d_poly2.f T.d_poly2.fd ["m", "rows"] (spP K R_poly2) := by
  refine okP T.d_poly2.F sc_poly2 (fun ds r h => ?_) (fun cdv A outer s H E hr => ⟨_, (pss_cons (ps_setLc (i := 2) (own := [("row", 3)]) rfl sc_poly2.nd rfl rfl (sw_true rfl rfl rfl (by decide +kernel)) (k_seq K (pv 1)) (blkOk_by (by kernel_rfl)) (fun _ _ _ _ _ => (pg_name (i := 3) sc_poly2.nd rfl (.inl rfl))) (fun _ _ _ _ _ => pts_nil) (fun _ _ _ _ _ => (pe_call (ok_poly T) (hr.mono (by decide)) (by rfl) T.d_poly.g T.d_poly.F.kp T.d_poly.b .nil pass0 (pa_cons (pv 0) (pa_cons (pv 3) pa_nil)))))
      (pss_cons (ps_while PassesOwn.never (PW.pt (pw_and (pt_cmpR op_gt (pe_callB (k_len K) (by rfl) T.b_len (by decide +kernel) (pa_cons (pv 2) pa_nil)) pe_int (nomark _)) (pw_and1 (pt_cmpR (k_eq K hr.units) (pe_ix (k_ix K) (pv 2) (pe_un un_neg pe_int) (fun _ _ => rfl)) (pe_tup pa_nil) (nomark _))))) (pss_one (ps_expr (k_pop K (pv 2)))))
      (pss_one (ps_ret (pe_callTy (k_tuple K) (by rfl) T.b_tuple (by decide +kernel) (pa_cons (pv 2) pa_nil)))))), fun ds r h => ?_⟩)
  · obtain ⟨m, xs, d, rfl, _⟩ := h; rfl
  · obtain ⟨m, xs, d, rfl, hd, hm, hl, rfl⟩ := h
    have key : ∃ enc : List Int → Dt, d = .l (xs.map enc) ∧ ∀ x, enc x = tI x ∨ enc x = lI x := by
      rcases hd with rfl | rfl
      · exact ⟨tI, rfl, fun x => .inl rfl⟩
      · exact ⟨lI, rfl, fun x => .inr rfl⟩
    obtain ⟨enc, rfl, he⟩ := key
    refine wp_seq (wp_asg (ev_lc (α := List Int) tg_name (by simp) (ei_seq (ev_var rfl ⟨xs.map enc, .inr rfl, xs, enc, fun x => tI (pol m x), rfl, hl.1, fun x hx => ⟨_, rfl, ?_⟩, Or.inr fun p hp => ?_⟩))))
    · walk_at "ev"
      exact ⟨_, ⟨m, x, _, rfl, he x, hm, hl.2 x hx, rfl⟩, rfl, rfl⟩
    refine wp_seq (wp_while (fun k sl S => ∃ ys : List (List Int), sl = [some (.i m), some (.l (xs.map enc)), some (.a p), none] ∧ S p = some (.l (ys.map tI)) ∧ ys.length = k ∧ trm List.isEmpty ys = pol2 m xs) ⟨_, xs.map (pol m), rfl, by rw [put_same, List.map_map]; rfl, rfl, rfl⟩ ?_)
    rintro k sl S ⟨ys, rfl, hS, rfl, ht⟩
    walk_at "ev"
    refine rk_len (sv_a hS) ?_
    walk_at "ev"
    refine dd2 (fun h => ?_) (fun h => ?_)
    · have hne : ys ≠ [] := fun z => by subst z; exact absurd h (by decide)
      obtain ⟨zs, x, rfl⟩ := snoc_of hne
      walk_at "ev"
      refine rv_ix (sv_a hS) atI_last ?_
      walk_at "ev"
      refine rv_eqd pl_tI pl_nilT (by decide) (by decide) (n := 1) (m := 1) (fun e => ?_) (fun e => ?_)
      · have hx : x = [] := tI_inj e
        subst hx
        walk_at "ev"
        refine ev_pop ?_
        walk_at "ev"
        rw [map_snoc] at hS
        refine ⟨p, _, _, rfl, hS, ?_⟩
        refine ⟨zs.length, by simp, zs, rfl, put_same, rfl, ?_⟩
        rw [← ht, trm_snoc]; rfl
      · have hx : ¬ x = [] := fun z => e (by rw [z]; rfl)
        walk_at "ev"
        refine rk_tuple (sv_a hS) ?_
        rw [← ht, trm_snoc, if_neg (by simpa using hx)]
        rfl
    · have hne : ys = [] := by
        cases ys with
        | nil => rfl
        | cons y ys => exact absurd h (by simp)
      subst hne
      walk_at "ev"
      refine rk_tuple (sv_a hS) ?_
      rw [← ht]; rfl
def R_row_of (ds : List Dt) (r : Dt) : Prop := ∃ (A : List (List Int)) (k : Nat), ds = [tP A, .i k] ∧ r = tI (rowM A k)
theorem ok_row_of (T : Txt K mg) : FnOk P w K mg base CX0 1 T.d_row_of.f T.d_row_of.fd ["P", "i"] (spP K R_row_of) := by
  refine okP T.d_row_of.F sc_row_of (fun ds r h => ?_) (fun cdv A outer s H E hr => ⟨_, (pss_one (ps_ret (pe_ifExp (pt_cmpR op_lt (pv 1) (pe_callB (k_len K) (by rfl) T.b_len (by decide +kernel) (pa_cons (pv 0) pa_nil)) (nomark _)) (pe_ix (k_ix K) (pv 0) (pv 1) (fun _ _ => rfl)) (pe_tup pa_nil)))), fun ds r h => ?_⟩)
  · obtain ⟨f, k, rfl, _⟩ := h; rfl
  · obtain ⟨f, k, rfl, rfl⟩ := h
    walk_at "ev"
    refine dd2 (fun h => ?_) (fun h => ?_)
    · have hk : k < f.length := by simp at h; omega
      walk_at "ev"
      exact rv_ix sv_t (atI_nn rfl (row_gl hk)) rfl
    · have hk : ¬ k < f.length := by simp at h; omega
      walk_at "ev"
      rw [row_out hk]; rfl
def R_plus2 (ds : List Dt) (r : Dt) : Prop := ∃ (m : Int) (A B : List (List Int)), ds = [.i m, tP A, tP B] ∧ 0 < m ∧ Sz 50000 A ∧ Sz 50000 B ∧ r = tP (plus2M m A B)
theorem ok_plus2 (T : Txt K mg) : FnOk P w K mg base CX0 3 T.d_plus2.f T.d_plus2.fd ["m", "P", "Q"] (spP K R_plus2) := by
  refine okP T.d_plus2.F sc_plus2 (fun ds r h => ?_) (fun cdv A outer s H E hr => ⟨_, (pss_one (ps_ret (pe_call (ok_poly2 T) (hr.mono (by decide)) (by rfl) T.d_poly2.g T.d_poly2.F.kp T.d_poly2.b .nil pass0 (pa_cons (pv 0) (pa_cons (pe_lc (own := [("i", 3)]) rfl sc_plus2.nd (pi_range1 (by rfl) T.b_range (pa_cons (pe_callB (call_max2 rfl) (by rfl) T.b_max (by decide +kernel) (pa_cons (pe_callB (k_len K) (by rfl) T.b_len (by decide +kernel) (pa_cons (pv 1) pa_nil)) (pa_cons (pe_callB (k_len K) (by rfl) T.b_len (by decide +kernel) (pa_cons (pv 2) pa_nil)) pa_nil))) pa_nil)) (blkOk_by (by kernel_rfl)) (fun _ _ _ _ _ => (pg_name (i := 3) sc_plus2.nd rfl (.inl rfl))) (fun _ _ _ _ _ => pts_nil) (fun _ _ _ _ _ => (pe_call (ok_plus T) (hr.mono (by decide)) (by rfl) T.d_plus.g T.d_plus.F.kp T.d_plus.b .nil pass0 (pa_cons (pv 0) (pa_cons (pe_call (ok_row_of T) (hr.mono (by decide)) (by rfl) T.d_row_of.g T.d_row_of.F.kp T.d_row_of.b .nil pass0 (pa_cons (pv 1) (pa_cons (pv 3) pa_nil))) (pa_cons (pe_call (ok_row_of T) (hr.mono (by decide)) (by rfl) T.d_row_of.g T.d_row_of.F.kp T.d_row_of.b .nil pass0 (pa_cons (pv 2) (pa_cons (pv 3) pa_nil))) pa_nil)))))) pa_nil))))), fun ds r h => ?_⟩)
  · obtain ⟨m, f, g, rfl, _⟩ := h; rfl
  · obtain ⟨m, A, B, rfl, hm, hf, hg, rfl⟩ := h
    walk_at "ev"
    refine ev_lcN (by simp) ?_
    walk_at "ev"
    refine ⟨max A.length B.length, fun k => tI (plusM m (rowM A k) (rowM B k)), by congr 2; rw [List.length_map, List.length_map]; omega, by have := hf.1; have := hg.1; omega, fun k hk => ?_, .inl ?_⟩
    · walk_at "ev"
      refine ⟨_, ⟨A, k, rfl, rfl⟩, ?_⟩
      walk_at "ev"
      refine ⟨_, ⟨B, k, rfl, rfl⟩, ?_⟩
      walk_at "ev"
      exact ⟨_, ⟨m, _, _, rfl, hm, hf.row k, hg.row k, rfl⟩, rfl, rfl⟩
    · walk_at "ev"
      refine ⟨_, ⟨m, (List.range (max A.length B.length)).map fun k => plusM m (rowM A k) (rowM B k), _, rfl, .inl (by unfold lT; rw [List.map_map]; rfl), hm, ?_, rfl⟩, rfl⟩
      exact (sz_mapr (n := 50000) _ (Nat.max_le.mpr ⟨hf.1, hg.1⟩) fun i _ => Nat.le_trans plusM_len (Nat.max_le.mpr ⟨hf.row i, hg.row i⟩)).mono (by decide)
def R_less2 (ds : List Dt) (r : Dt) : Prop := ∃ (m : Int) (A B : List (List Int)), ds = [.i m, tP A, tP B] ∧ 0 < m ∧ Sz 50000 A ∧ Sz 50000 B ∧ r = tP (less2M m A B)
theorem ok_less2 (T : Txt K mg) : FnOk P w K mg base CX0 3 T.d_less2.f T.d_less2.fd ["m", "P", "Q"] (spP K R_less2) := by
  refine okP T.d_less2.F sc_less2 (fun ds r h => ?_) (fun cdv A outer s H E hr => ⟨_, (pss_one (ps_ret (pe_call (ok_poly2 T) (hr.mono (by decide)) (by rfl) T.d_poly2.g T.d_poly2.F.kp T.d_poly2.b .nil pass0 (pa_cons (pv 0) (pa_cons (pe_lc (own := [("i", 3)]) rfl sc_less2.nd (pi_range1 (by rfl) T.b_range (pa_cons (pe_callB (call_max2 rfl) (by rfl) T.b_max (by decide +kernel) (pa_cons (pe_callB (k_len K) (by rfl) T.b_len (by decide +kernel) (pa_cons (pv 1) pa_nil)) (pa_cons (pe_callB (k_len K) (by rfl) T.b_len (by decide +kernel) (pa_cons (pv 2) pa_nil)) pa_nil))) pa_nil)) (blkOk_by (by kernel_rfl)) (fun _ _ _ _ _ => (pg_name (i := 3) sc_less2.nd rfl (.inl rfl))) (fun _ _ _ _ _ => pts_nil) (fun _ _ _ _ _ => (pe_call (ok_less T) (hr.mono (by decide)) (by rfl) T.d_less.g T.d_less.F.kp T.d_less.b .nil pass0 (pa_cons (pv 0) (pa_cons (pe_call (ok_row_of T) (hr.mono (by decide)) (by rfl) T.d_row_of.g T.d_row_of.F.kp T.d_row_of.b .nil pass0 (pa_cons (pv 1) (pa_cons (pv 3) pa_nil))) (pa_cons (pe_call (ok_row_of T) (hr.mono (by decide)) (by rfl) T.d_row_of.g T.d_row_of.F.kp T.d_row_of.b .nil pass0 (pa_cons (pv 2) (pa_cons (pv 3) pa_nil))) pa_nil)))))) pa_nil))))), fun ds r h => ?_⟩)
  · obtain ⟨m, f, g, rfl, _⟩ := h; rfl
  · obtain ⟨m, A, B, rfl, hm, hf, hg, rfl⟩ := h
    walk_at "ev"
    refine ev_lcN (by simp) ?_
    walk_at "ev"
    refine ⟨max A.length B.length, fun k => tI (lessM m (rowM A k) (rowM B k)), by congr 2; rw [List.length_map, List.length_map]; omega, by have := hf.1; have := hg.1; omega, fun k hk => ?_, .inl ?_⟩
    · walk_at "ev"
      refine ⟨_, ⟨A, k, rfl, rfl⟩, ?_⟩
      walk_at "ev"
      refine ⟨_, ⟨B, k, rfl, rfl⟩, ?_⟩
      walk_at "ev"
      exact ⟨_, ⟨m, _, _, rfl, hm, hf.row k, hg.row k, rfl⟩, rfl, rfl⟩
    · walk_at "ev"
      refine ⟨_, ⟨m, (List.range (max A.length B.length)).map fun k => lessM m (rowM A k) (rowM B k), _, rfl, .inl (by unfold lT; rw [List.map_map]; rfl), hm, ?_, rfl⟩, rfl⟩
      exact (sz_mapr (n := 50000) _ (Nat.max_le.mpr ⟨hf.1, hg.1⟩) fun i _ => Nat.le_trans lessM_len (Nat.max_le.mpr ⟨hf.row i, hg.row i⟩)).mono (by decide)
abbrev eQ (q : Nat × List Int) : Dt := .t [.i (q.1 : Int), tI q.2]
def R_times2 (ds : List Dt) (r : Dt) : Prop := ∃ (m : Int) (A B : List (List Int)), ds = [.i m, tP A, tP B] ∧ 0 < m ∧ m ≤ 1000 ∧ RedR m A ∧ Sz 20000 A ∧ Sz 20000 B ∧ r = tP (times2M m A B)
theorem ok_times2 (T : Txt K mg) : FnOk P w K mg base CX0 3 T.d_times2.f T.d_times2.fd ["m", "P", "Q"] (spP K R_times2) := by
  refine okP T.d_times2.F sc_times2 (fun ds r h => ?_) (fun cdv A outer s H E hr => ⟨_, (pss_cons (ps_set (i := 3) sc_times2.nd rfl (.inl rfl) (pe_op op_mulA (pe_lst (pa_cons (pe_tup pa_nil) pa_nil)) (pe_op (k_add K) (pe_callB (k_len K) (by rfl) T.b_len (by decide +kernel) (pa_cons (pv 1) pa_nil)) (pe_callB (k_len K) (by rfl) T.b_len (by decide +kernel) (pa_cons (pv 2) pa_nil)))))
      (pss_cons (ps_for PassesOwn.never rfl (k_enum K (by rfl) T.b_enumerate (pa_cons (pv 1) pa_nil)) (k_gtup K (n := 2) rfl (pgs_cons (pg_name (i := 4) sc_times2.nd rfl (.inl rfl)) (pgs_cons (pg_name (i := 5) sc_times2.nd rfl (.inl rfl)) pgs_nil))) (pss_one (ps_for PassesOwn.never rfl (k_enum K (by rfl) T.b_enumerate (pa_cons (pv 2) pa_nil)) (k_gtup K (n := 2) rfl (pgs_cons (pg_name (i := 6) sc_times2.nd rfl (.inl rfl)) (pgs_cons (pg_name (i := 7) sc_times2.nd rfl (.inl rfl)) pgs_nil))) (pss_one (ps_asg (pe_call (ok_plus T) (hr.mono (by decide)) (by rfl) T.d_plus.g T.d_plus.F.kp T.d_plus.b .nil pass0 (pa_cons (pv 0) (pa_cons (pe_ix (k_ix K) (pv 3) (pe_op (k_add K) (pv 4) (pv 6)) (fun _ _ => rfl)) (pa_cons (pe_call (ok_times T) (hr.mono (by decide)) (by rfl) T.d_times.g T.d_times.F.kp T.d_times.b .nil pass0 (pa_cons (pv 0) (pa_cons (pv 5) (pa_cons (pv 7) pa_nil)))) pa_nil)))) (pg_sub (pv 3) (pe_op (k_add K) (pv 4) (pv 6)) set_list))))))
      (pss_one (ps_ret (pe_call (ok_poly2 T) (hr.mono (by decide)) (by rfl) T.d_poly2.g T.d_poly2.F.kp T.d_poly2.b .nil pass0 (pa_cons (pv 0) (pa_cons (pv 3) pa_nil))))))), fun ds r h => ?_⟩)
  · obtain ⟨m, f, g, rfl, _⟩ := h; rfl
  · obtain ⟨m, A, B, rfl, hm, hm2, hr', hf, hg, rfl⟩ := h
    have hA := hf.1
    have hB := hg.1
    walk_at "ev"
    refine ev_lstA ?_
    walk_at "ev"
    intro p0 hp0
    walk_at "ev"
    refine rv_mulN (ds := [.t []]) (n := A.length + B.length) ⟨_, rfl, put_same⟩ (by simp) (by simp; omega) (by omega) (.inr fun p hp => ?_)
    rw [rep_one, show List.replicate (A.length + B.length) (Dt.t []) = (List.replicate (A.length + B.length) ([] : List Int)).map tI by rw [List.map_replicate]; rfl]
    walk_at "ev"
    refine wp_forM (α := Nat × List Int) (tg_tup (js := [4, 5]) rfl) (ei_enum ?_)
    walk_at "ev"
    refine ⟨A.map tI, .inr rfl, en 0 A, eQ, fun r sl S => ∃ (acc : List (List Int)) (y4 y5 y6 y7 : Option Dt), sl = [some (.i m), some (tP A), some (tP B), some (.a p), y4, y5, y6, y7] ∧ S p = some (.l (acc.map tI)) ∧ Sz 40000 acc ∧ acc.length = A.length + B.length ∧
      r.foldl (fun acc p => (en 0 B).foldl (fun acc q => acc.set (p.1 + q.1) (plusM m (rowM acc (p.1 + q.1)) (timesM m p.2 q.2))) acc) acc = mulR m A B, enD_map, ⟨_, none, none, none, none, rfl, put_same, sz_rep (by omega), by rw [List.length_replicate], rfl⟩, fun q r sl S hq => ?_, fun sl S => ?_⟩
    · rintro ⟨acc, y4, y5, y6, y7, rfl, hS, hz, hl, e⟩
      refine ⟨_, ⟨rfl, rfl⟩, ?_⟩
      have hq' := en_mem hq
      refine wp_forM (α := Nat × List Int) (tg_tup (js := [6, 7]) rfl) (ei_enum ?_)
      walk_at "ev"
      refine ⟨B.map tI, .inr rfl, en 0 B, eQ, fun r' sl S => ∃ (acc' : List (List Int)) (y6 y7 : Option Dt), sl = [some (.i m), some (tP A), some (tP B), some (.a p), some (.i (q.1 : Int)), some (tI q.2), y6, y7] ∧ S p = some (.l (acc'.map tI)) ∧ Sz 40000 acc' ∧ acc'.length = A.length + B.length ∧
        r'.foldl (fun acc q' => acc.set (q.1 + q'.1) (plusM m (rowM acc (q.1 + q'.1)) (timesM m q.2 q'.2))) acc' = (en 0 B).foldl (fun acc q' => acc.set (q.1 + q'.1) (plusM m (rowM acc (q.1 + q'.1)) (timesM m q.2 q'.2))) acc, enD_map, ⟨acc, y6, y7, rfl, hS, hz, hl, rfl⟩, fun q' r' sl S hq2 => ?_, fun sl S => ?_⟩
      · rintro ⟨acc', y6, y7, rfl, hS', hz', hl', e'⟩
        refine ⟨_, ⟨rfl, rfl⟩, ?_⟩
        have hq2' := en_mem hq2
        have hij : q.1 + q'.1 < acc'.length := by omega
        have l1 := hf.2 _ hq'.2.2
        have l2 := hg.2 _ hq2'.2.2
        refine wp_setL ?_
        walk_at "ev"
        refine rv_ix (sv_a hS') (atI_nn (j := q.1 + q'.1) (by omega) (row_gl hij)) ?_
        walk_at "ev"
        refine ⟨_, ⟨m, q.2, q'.2, rfl, hm, hm2, hr' _ hq'.2.2, by omega, by omega, rfl⟩, ?_⟩
        have l3 := timesM_len (m := m) (f := q.2) (g := q'.2)
        walk_at "ev"
        refine ⟨_, ⟨m, _, _, rfl, hm, Nat.le_trans (hz'.row _) (by decide), by omega, rfl⟩, ?_⟩
        walk_at "ev"
        refine ⟨p, _, _, q.1 + q'.1, rfl, rfl, hS', ixN_nn (by omega) (by rw [List.length_map]; exact hij), ?_⟩
        exact ⟨_, _, _, rfl, by rw [put_same, lst_set], hz'.set (Nat.le_trans plusM_len (Nat.max_le.mpr ⟨hz'.row _, by omega⟩)), by rw [List.length_set]; exact hl', e'⟩
      · rintro ⟨acc', y6, y7, rfl, hS', hz', hl', e'⟩
        have e2 : acc' = (en 0 B).foldl (fun acc q' => acc.set (q.1 + q'.1) (plusM m (rowM acc (q.1 + q'.1)) (timesM m q.2 q'.2))) acc := e'
        exact ⟨acc', _, _, _, _, rfl, hS', hz', hl', by rw [e2]; exact e⟩
    · rintro ⟨acc, y4, y5, y6, y7, rfl, hS, hz, hl, e⟩
      refine wp_freeze (i := 3) rfl hS ?_
      walk_at "ev"
      refine ⟨_, ⟨m, acc, _, rfl, .inl rfl, hm, hz.mono (by decide), rfl⟩, ?_⟩
      have e2 : acc = mulR m A B := e
      rw [e2]; rfl
end
end Nf

set_option Elab.async false
set_option linter.all false
set_option maxRecDepth 100000
set_option maxHeartbeats 4000000
namespace Nf
open PySem PySem.Spec PyProof.Rows L2 RT RZ Mz
section
variable {P : Program} {w : World} {K : PySem.W.Frag} {mg : Str → Option Value} {base : Heap}
def R_upon2 (ds : List Dt) (r : Dt) : Prop := ∃ (m : Int) (A U V : List (List Int)), ds = [.i m, tP A, tP U, tP V] ∧ 0 < m ∧ m ≤ 1000 ∧ Sz 50 A ∧ Sz 50 U ∧ Sz 50 V ∧ r = tP (upon2M m A U V)
theorem ok_upon2 (T : Txt K mg) : FnOk P w K mg base CX0 4 T.d_upon2.f T.d_upon2.fd ["m", "P", "U", "V"] (spP K R_upon2) := by
  refine okP T.d_upon2.F sc_upon2 (fun ds r h => ?_) (fun cdv A outer s H E hr => ⟨_, (pss_cons (ps_set (i := 4) sc_upon2.nd rfl (.inl rfl) (pe_tup pa_nil))
      (pss_cons (ps_for PassesOwn.never rfl (k_rev K (by rfl) T.b_reversed (pv 1)) (pg_name (i := 5) sc_upon2.nd rfl (.inl rfl)) (pss_cons (ps_set (i := 6) sc_upon2.nd rfl (.inl rfl) (pe_tup pa_nil))
      (pss_cons (ps_for PassesOwn.never rfl (k_rev K (by rfl) T.b_reversed (pv 5)) (pg_name (i := 7) sc_upon2.nd rfl (.inl rfl)) (pss_one (ps_set (i := 6) sc_upon2.nd rfl (.inl rfl) (pe_call (ok_plus2 T) (hr.mono (by decide)) (by rfl) T.d_plus2.g T.d_plus2.F.kp T.d_plus2.b .nil pass0 (pa_cons (pv 0) (pa_cons (pe_call (ok_times2 T) (hr.mono (by decide)) (by rfl) T.d_times2.g T.d_times2.F.kp T.d_times2.b .nil pass0 (pa_cons (pv 0) (pa_cons (pv 6) (pa_cons (pv 3) pa_nil)))) (pa_cons (pe_call (ok_poly2 T) (hr.mono (by decide)) (by rfl) T.d_poly2.g T.d_poly2.F.kp T.d_poly2.b .nil pass0 (pa_cons (pv 0) (pa_cons (pe_lst (pa_cons (pe_lst (pa_cons (pv 7) pa_nil)) pa_nil)) pa_nil))) pa_nil)))))))
      (pss_one (ps_set (i := 4) sc_upon2.nd rfl (.inl rfl) (pe_call (ok_plus2 T) (hr.mono (by decide)) (by rfl) T.d_plus2.g T.d_plus2.F.kp T.d_plus2.b .nil pass0 (pa_cons (pv 0) (pa_cons (pe_call (ok_times2 T) (hr.mono (by decide)) (by rfl) T.d_times2.g T.d_times2.F.kp T.d_times2.b .nil pass0 (pa_cons (pv 0) (pa_cons (pv 4) (pa_cons (pv 2) pa_nil)))) (pa_cons (pv 6) pa_nil)))))))))
      (pss_one (ps_ret (pv 4))))), fun ds r h => ?_⟩)
  · obtain ⟨m, f, g, k, rfl, _⟩ := h; rfl
  · obtain ⟨m, A, U, V, rfl, hm, hm2, hA, hU, hV, rfl⟩ := h
    walk_at "ev"
    refine wp_forM (α := List Int) tg_name (ei_rev ?_)
    walk_at "ev"
    refine ⟨A.map tI, .inr rfl, A.reverse, tI, fun r sl S => ∃ (acc : List (List Int)) (y5 y6 y7 : Option Dt), sl = [some (.i m), some (tP A), some (tP U), some (tP V), some (tP acc), y5, y6, y7] ∧ RedR m acc ∧ Sz (10000 - 50 * r.length) acc ∧ r.length ≤ 50 ∧
      r.foldl (fun found row => plus2M m (times2M m found U) (hornI m row V)) acc = upon2M m A U V, by rw [List.map_reverse], ⟨[], none, none, none, rfl, redR_nil, sz_nil, by rw [List.length_reverse]; exact hA.1, rfl⟩, fun row r sl S hrow => ?_, fun sl S => ?_⟩
    · rintro ⟨acc, y5, y6, y7, rfl, hr1, hz, hl, e⟩
      rw [List.length_cons] at hz hl
      refine ⟨_, rfl, ?_⟩
      have hrl := hA.2 row (List.mem_reverse.mp hrow)
      walk_at "ev"
      refine wp_forM (α := Int) tg_name (ei_rev ?_)
      walk_at "ev"
      refine ⟨row.map Dt.i, .inr rfl, row.reverse, Dt.i, fun r' sl S => ∃ (inn : List (List Int)) (y7 : Option Dt), sl = [some (.i m), some (tP A), some (tP U), some (tP V), some (tP acc), some (tI row), some (tP inn), y7] ∧ RedR m inn ∧ Sz (2501 - 50 * r'.length) inn ∧ r'.length ≤ 50 ∧
        r'.foldl (fun inner one => plus2M m (times2M m inner V) (pol2 m [[one]])) inn = hornI m row V, by rw [List.map_reverse], ⟨[], y7, rfl, redR_nil, sz_nil, by rw [List.length_reverse]; exact hrl, rfl⟩, fun x r' sl S hx => ?_, fun sl S => ?_⟩
      · rintro ⟨inn, y7, rfl, hr2, hz2, hl2, e2⟩
        rw [List.length_cons] at hz2 hl2
        refine ⟨_, rfl, ?_⟩
        walk_at "ev"
        refine ⟨_, ⟨m, inn, V, rfl, hm, hm2, hr2, hz2.mono (by omega), hV.mono (by decide), rfl⟩, ?_⟩
        walk_at "ev"
        refine ev_lst ?_
        walk_at "ev"
        refine ev_lst ?_
        walk_at "ev"
        refine ⟨_, ⟨m, [[x]], _, rfl, .inr rfl, hm, sz_one (by decide), rfl⟩, ?_⟩
        have z1 : Sz (2501 - 50 * r'.length) (times2M m inn V) := (sz_times2 hz2 hV).mono (by omega)
        have z2 : Sz (2501 - 50 * r'.length) (pol2 m [[x]]) := sz_pol2 (sz_one (by omega))
        walk_at "ev"
        refine ⟨_, ⟨m, _, _, rfl, hm, z1.mono (by omega), z2.mono (by omega), rfl⟩, ?_⟩
        exact ⟨_, _, rfl, red_pol2 hm, sz_plus2 z1 z2, by omega, e2⟩
      · rintro ⟨inn, y7, rfl, hr2, hz2, hl2, e2⟩
        have e3 : inn = hornI m row V := e2
        subst e3
        walk_at "ev"
        refine ⟨_, ⟨m, acc, U, rfl, hm, hm2, hr1, hz.mono (by omega), hU.mono (by decide), rfl⟩, ?_⟩
        have z1 : Sz (10000 - 50 * r.length) (times2M m acc U) := (sz_times2 hz hU).mono (by omega)
        have z2 : Sz (10000 - 50 * r.length) (hornI m row V) := hz2.mono (by simp; omega)
        walk_at "ev"
        refine ⟨_, ⟨m, _, _, rfl, hm, z1.mono (by omega), z2.mono (by omega), rfl⟩, ?_⟩
        exact ⟨_, _, _, _, rfl, red_pol2 hm, sz_plus2 z1 z2, by omega, e⟩
    · rintro ⟨acc, y5, y6, y7, rfl, hr1, hz, hl, e⟩
      walk_at "ev"
      have e2 : acc = upon2M m A U V := e
      rw [e2]
def R_in_x (ds : List Dt) (r : Dt) : Prop := ∃ (f : List Int), ds = [tI f] ∧ f.length ≤ 100000 ∧ r = tP (inxM f)
theorem ok_in_x (T : Txt K mg) : FnOk P w K mg base CX0 1 T.d_in_x.f T.d_in_x.fd ["f"] (spP K R_in_x) := by
  refine okP T.d_in_x.F sc_in_x (fun ds r h => ?_) (fun cdv A outer s H E hr => ⟨_, (pss_one (ps_ret (pe_callTy (k_tuple K) (by rfl) T.b_tuple (by decide +kernel) (pa_cons (pe_lc (own := [("one", 1)]) rfl sc_in_x.nd (k_seq K (pv 0)) (blkOk_by (by kernel_rfl)) (fun _ _ _ _ _ => (pg_name (i := 1) sc_in_x.nd rfl (.inl rfl))) (fun _ _ _ _ _ => pts_nil) (fun _ _ _ _ _ => (pe_ifExp (pt_cmpR (k_ne K hr.units) (pv 1) pe_int (nomark _)) (pe_tup (pa_cons (pv 1) pa_nil)) (pe_tup pa_nil)))) pa_nil)))), fun ds r h => ?_⟩)
  · obtain ⟨f, rfl, _⟩ := h; rfl
  · obtain ⟨f, rfl, hl, rfl⟩ := h
    walk_at "ev"
    refine ev_lc (α := Int) tg_name (by simp) (ei_seq ?_)
    walk_at "ev"
    refine ⟨f.map Dt.i, .inl rfl, f, Dt.i, fun c => tI (if c = 0 then [] else [c]), rfl, hl, fun x hx => ⟨_, rfl, ?_⟩, .inl ?_⟩
    · walk_at "ev"
      refine nd2 (fun h => ?_) (fun h => ?_)
      · walk_at "ev"
        exact ⟨by show _ = tI _; rw [if_pos h]; rfl, rfl⟩
      · walk_at "ev"
        exact ⟨by show _ = tI _; rw [if_neg h]; rfl, rfl⟩
    · walk_at "ev"
      refine rk_tuple sv_l ?_
      unfold inxM tP; rw [List.map_map]; rfl
def R_rising_product (ds : List Dt) (r : Dt) : Prop := ∃ (k : Nat), ds = [.i (k : Int)] ∧ k ≤ 1000 ∧ r = .i (fac k : Int)
theorem ok_rising_product (T : Txt K mg) : FnOk P w K mg base CX0 1 T.d_rising_product.f T.d_rising_product.fd ["k"] (spP K R_rising_product) := by
  refine okP T.d_rising_product.F sc_rising_product (fun ds r h => ?_) (fun cdv A outer s H E hr => ⟨_, (pss_cons (ps_set (i := 1) sc_rising_product.nd rfl (.inl rfl) pe_int)
      (pss_cons (ps_for PassesOwn.never rfl (pi_range2 (by rfl) T.b_range (pa_cons pe_int (pa_cons (pe_op (k_add K) (pv 0) pe_int) pa_nil))) (pg_name (i := 2) sc_rising_product.nd rfl (.inl rfl)) (pss_one (ps_set (i := 1) sc_rising_product.nd rfl (.inl rfl) (pe_op op_mulA (pv 1) (pv 2)))))
      (pss_one (ps_ret (pv 1))))), fun ds r h => ?_⟩)
  · obtain ⟨f, rfl, _⟩ := h; rfl
  · obtain ⟨k, rfl, hl, rfl⟩ := h
    walk_at "ev"
    refine wp_forM (α := Int) tg_name (ei_rng2 ?_)
    walk_at "ev"
    refine ⟨_, _, rfl, by omega, rng 2 1 ((k : Int) + 1 - 2).toNat, Dt.i, fun r sl S => ∃ (acc : Int) (y2 : Option Dt), sl = [some (.i (k : Int)), some (.i acc), y2] ∧ r.foldl (· * ·) acc = (fac k : Int), rgD_map, ⟨1, none, rfl, fac_rise k⟩, fun x r sl S hx => ?_, fun sl S => ?_⟩
    · rintro ⟨acc, y2, rfl, e⟩
      refine ⟨_, rfl, ?_⟩
      obtain ⟨i, hi, rfl⟩ := rng_mem hx
      walk_at "ev"
      refine rv_mulS (.inr ⟨by omega, by omega⟩) ?_
      exact ⟨_, _, rfl, e⟩
    · rintro ⟨acc, y2, rfl, e⟩
      walk_at "ev"
      have e2 : acc = (fac k : Int) := e
      rw [e2]
def R_top2 (ds : List Dt) (r : Dt) : Prop := ∃ (m : Int) (i j : Nat), ds = [.i m, .i (i : Int), .i (j : Int)] ∧ 0 < m ∧ m ≤ 1000 ∧ i ≤ 400 ∧ j ≤ 400 ∧ r = .i (top m i j)
theorem ok_top2 (T : Txt K mg) : FnOk P w K mg base CX0 2 T.d_top2.f T.d_top2.fd ["m", "i", "j"] (spP K R_top2) := by
  refine okP T.d_top2.F sc_top2 (fun ds r h => ?_) (fun cdv A outer s H E hr => ⟨_, (pss_one (ps_ret (pe_op op_fdiv (pv 0) (pe_call (ok_common T) (hr.mono (by decide)) (by rfl) T.d_common.g T.d_common.F.kp T.d_common.b .nil pass0 (pa_cons (pv 0) (pa_cons (pe_op op_mulA (pe_call (ok_rising_product T) (hr.mono (by decide)) (by rfl) T.d_rising_product.g T.d_rising_product.F.kp T.d_rising_product.b .nil pass0 (pa_cons (pv 1) pa_nil)) (pe_call (ok_rising_product T) (hr.mono (by decide)) (by rfl) T.d_rising_product.g T.d_rising_product.F.kp T.d_rising_product.b .nil pass0 (pa_cons (pv 2) pa_nil))) pa_nil)))))), fun ds r h => ?_⟩)
  · obtain ⟨m, i, j, rfl, _⟩ := h; rfl
  · obtain ⟨m, i, j, rfl, hm, hm2, hi, hj, rfl⟩ := h
    walk_at "ev"
    refine ⟨_, ⟨i, rfl, by omega, rfl⟩, ?_⟩
    walk_at "ev"
    refine ⟨_, ⟨j, rfl, by omega, rfl⟩, ?_⟩
    refine rv_mulW (fac_wide hi hj) ?_
    walk_at "ev"
    refine ⟨_, ⟨m, _, rfl, rfl⟩, ?_⟩
    have hg : 0 < Int.gcd m ((fac i : Int) * (fac j : Int)) := Int.gcd_pos_of_ne_zero_left _ (by omega)
    have hg2 : Int.gcd m ((fac i : Int) * (fac j : Int)) ≤ m.natAbs := Int.gcd_le_natAbs_left _ (by omega)
    refine rv_fdiv ⟨by omega, by omega⟩ ?_
    unfold top
    rw [Int.natCast_mul]
def R_all_neighbours (ds : List Dt) (r : Dt) : Prop := ∃ (m : Int) (n : Nat), ds = [.i m, .i (n : Int)] ∧ 0 < m ∧ m ≤ 1000 ∧ n ≤ 1000 ∧ r = .l ((List.range n).map fun k => tI (nb m k))
theorem red_nb {m : Int} (hm : 0 < m) : ∀ k, Red m (nb m k)
  | 0 => red_pol hm
  | k + 1 => red_pol hm
theorem ok_all_neighbours (T : Txt K mg) : FnOk P w K mg base CX0 3 T.d_all_neighbours.f T.d_all_neighbours.fd ["m", "many"] (spP K R_all_neighbours) := by
  refine okP T.d_all_neighbours.F sc_all_neighbours (fun ds r h => ?_) (fun cdv A outer s H E hr => ⟨_, (pss_cons (ps_set (i := 2) sc_all_neighbours.nd rfl (.inl rfl) (pe_lst pa_nil))
      (pss_cons (ps_set (i := 3) sc_all_neighbours.nd rfl (.inl rfl) (pe_call (ok_poly T) (hr.mono (by decide)) (by rfl) T.d_poly.g T.d_poly.F.kp T.d_poly.b .nil pass0 (pa_cons (pv 0) (pa_cons (pe_lst (pa_cons pe_int pa_nil)) pa_nil))))
      (pss_cons (ps_for PassesOwn.never rfl (pi_range1 (by rfl) T.b_range (pa_cons (pv 1) pa_nil)) (pg_name (i := 4) sc_all_neighbours.nd rfl (.inl rfl)) (pss_cons (ps_expr (k_append K (pv 2) (pa_cons (pv 3) pa_nil)))
      (pss_one (ps_set (i := 3) sc_all_neighbours.nd rfl (.inl rfl) (pe_call (ok_times T) (hr.mono (by decide)) (by rfl) T.d_times.g T.d_times.F.kp T.d_times.b .nil pass0 (pa_cons (pv 0) (pa_cons (pv 3) (pa_cons (pe_call (ok_poly T) (hr.mono (by decide)) (by rfl) T.d_poly.g T.d_poly.F.kp T.d_poly.b .nil pass0 (pa_cons (pv 0) (pa_cons (pe_lst (pa_cons (pe_un un_neg (pv 4)) (pa_cons pe_int pa_nil))) pa_nil))) pa_nil))))))))
      (pss_one (ps_ret (pv 2)))))), fun ds r h => ?_⟩)
  · obtain ⟨m, n, rfl, _⟩ := h; rfl
  · obtain ⟨m, n, rfl, hm, hm2, hn, rfl⟩ := h
    walk_at "ev"
    refine ev_lstA ?_
    walk_at "ev"
    intro p hp
    walk_at "ev"
    refine ev_lst ?_
    walk_at "ev"
    refine ⟨_, ⟨m, [1], _, rfl, .inr rfl, hm, by decide, rfl⟩, ?_⟩
    refine wp_seq (wp_forI ?_)
    walk_at "ev"
    refine ⟨n, fun k sl S => ∃ y4 : Option Dt, sl = [some (.i m), some (.i (n : Int)), some (.a p), some (tI (nb m k)), y4] ∧ S p = some (.l ((List.range k).map fun k => tI (nb m k))) ∧ (nb m k).length ≤ 1 + 2 * k, rfl, by omega, ⟨none, rfl, put_same, pol_len⟩, fun k sl S hk => ?_, fun sl S => ?_⟩
    · rintro ⟨y4, rfl, hS, hl⟩
      walk_at "ev"
      refine ev_append ?_
      walk_at "ev"
      refine ⟨p, _, rfl, hS, ?_⟩
      walk_at "ev"
      refine ⟨hS, by rw [List.length_map, List.length_range]; omega, ?_⟩
      walk_at "ev"
      refine ev_lst ?_
      walk_at "ev"
      refine ⟨_, ⟨m, [-(k : Int), 1], _, rfl, .inr rfl, hm, by simp, rfl⟩, ?_⟩
      have l1 : (pol m [-(k : Int), 1]).length ≤ 2 := pol_len
      walk_at "ev"
      refine ⟨_, ⟨m, _, _, rfl, hm, hm2, red_nb hm k, by omega, by omega, rfl⟩, ?_⟩
      refine ⟨_, rfl, by rw [put_same, List.range_succ, List.map_append]; rfl, ?_⟩
      have l2 := timesM_len (m := m) (f := nb m k) (g := pol m [-(k : Int), 1])
      show (timesM m (nb m k) (pol m [-(k : Int), 1])).length ≤ _
      omega
    · rintro ⟨y4, rfl, hS, hl⟩
      refine wp_freeze (i := 2) rfl hS ?_
      walk_at "ev"
      rfl
def R_wide_of (ds : List Dt) (r : Dt) : Prop := ∃ (A : List (List Int)) (d : Dt), ds = [d] ∧ (d = tP A ∨ d = lL A) ∧ A.length ≤ 100000 ∧ r = .i (wide A : Nat)
theorem ok_wide_of (T : Txt K mg) : FnOk P w K mg base CX0 1 T.d_wide_of.f T.d_wide_of.fd ["table"] (spP K R_wide_of) := by
  refine okP T.d_wide_of.F sc_wide_of (fun ds r h => ?_) (fun cdv A outer s H E hr => ⟨_, (pss_one (ps_ret (pe_callBK (k_maxD K) (by rfl) T.b_max (by decide +kernel) (pa_cons (pe_lc (own := [("row", 1)]) rfl sc_wide_of.nd (k_seq K (pv 0)) (blkOk_by (by kernel_rfl)) (fun _ _ _ _ _ => (pg_name (i := 1) sc_wide_of.nd rfl (.inl rfl))) (fun _ _ _ _ _ => pts_nil) (fun _ _ _ _ _ => (pe_callB (k_len K) (by rfl) T.b_len (by decide +kernel) (pa_cons (pv 1) pa_nil)))) pa_nil) (pk_cons pe_int pk_nil)))), fun ds r h => ?_⟩)
  · obtain ⟨A, d, rfl, _⟩ := h; rfl
  · obtain ⟨A, d, rfl, hd, hl, rfl⟩ := h
    have key : ∃ (enc : List Int → Dt), (d = .t (A.map enc) ∨ d = .l (A.map enc)) ∧ ∀ x, SV nos (enc x) (x.map Dt.i) := by
      rcases hd with rfl | rfl
      · exact ⟨tI, .inl rfl, fun x => sv_t⟩
      · exact ⟨lI, .inr rfl, fun x => sv_l⟩
    obtain ⟨enc, hd', he⟩ := key
    walk_at "ev"
    refine ev_maxD ?_
    walk_at "ev"
    refine ev_lc (α := List Int) tg_name (by simp) (ei_seq ?_)
    walk_at "ev"
    refine ⟨A.map enc, hd', A, enc, fun x => .i (x.length : Int), rfl, hl, fun x hx => ⟨_, rfl, ?_⟩, .inl ?_⟩
    · walk_at "ev"
      refine rk_len (he x) ?_
      rw [List.length_map]
      exact ⟨rfl, rfl⟩
    · walk_at "ev"
      refine ⟨_, rfl, ?_⟩
      walk_at "ev"
      exact ⟨A.map List.length, rfl, .inl (by rw [List.map_map]; rfl), rfl⟩
end
end Nf

set_option Elab.async false
set_option linter.all false
set_option maxRecDepth 100000
set_option maxHeartbeats 4000000
namespace Nf
open PySem PySem.Spec PyProof.Rows L2 RT RZ Mz
section
variable {P : Program} {w : World} {K : PySem.W.Frag} {mg : Str → Option Value} {base : Heap}
abbrev eR (q : Nat × List Int) : Dt := .t [.i (q.1 : Int), lI q.2]
abbrev eI (q : Nat × Int) : Dt := .t [.i (q.1 : Int), .i q.2]
abbrev stI (m : Int) (inner : List Int) (q : Nat × Int) : List Int := if q.2 % m = 0 then inner else plusM m inner (timesM m (nb m q.1) (pol m [q.2]))
abbrev stS (m : Int) (inner : List Int) (acc : List (List Int)) (q : Nat × Int) : List (List Int) := acc.set q.1 (plusM m (rowM acc q.1) (timesM m inner (pol m [q.2])))
abbrev stO (m : Int) (acc : List (List Int)) (q : Nat × List Int) : List (List Int) := if innerM m q.2 = [] then acc else spread m (innerM m q.2) (nb m q.1) acc
def R_built (ds : List Dt) (r : Dt) : Prop := ∃ (m : Int) (A : List (List Int)), ds = [.i m, lL A] ∧ 0 < m ∧ m ≤ 1000 ∧ Sz 400 A ∧ r = tP (builtM m A)
theorem ok_built (T : Txt K mg) : FnOk P w K mg base CX0 4 T.d_built.f T.d_built.fd ["m", "table"] (spP K R_built) := by
  refine okP T.d_built.F sc_built (fun ds r h => ?_) (fun cdv A outer s H E hr => ⟨_, (pss_cons (ps_set (i := 2) sc_built.nd rfl (.inl rfl) (pe_call (ok_all_neighbours T) (hr.mono (by decide)) (by rfl) T.d_all_neighbours.g T.d_all_neighbours.F.kp T.d_all_neighbours.b .nil pass0 (pa_cons (pv 0) (pa_cons (pe_callB (call_max2 rfl) (by rfl) T.b_max (by decide +kernel) (pa_cons (pe_callB (k_len K) (by rfl) T.b_len (by decide +kernel) (pa_cons (pv 1) pa_nil)) (pa_cons (pe_call (ok_wide_of T) (hr.mono (by decide)) (by rfl) T.d_wide_of.g T.d_wide_of.F.kp T.d_wide_of.b .nil pass0 (pa_cons (pv 1) pa_nil)) pa_nil))) pa_nil))))
      (pss_cons (ps_set (i := 3) sc_built.nd rfl (.inl rfl) (pe_op op_mulA (pe_lst (pa_cons (pe_tup pa_nil) pa_nil)) (pe_callB (k_len K) (by rfl) T.b_len (by decide +kernel) (pa_cons (pv 1) pa_nil))))
      (pss_cons (ps_for PassesOwn.never rfl (k_enum K (by rfl) T.b_enumerate (pa_cons (pv 1) pa_nil)) (k_gtup K (n := 2) rfl (pgs_cons (pg_name (i := 4) sc_built.nd rfl (.inl rfl)) (pgs_cons (pg_name (i := 5) sc_built.nd rfl (.inl rfl)) pgs_nil))) (pss_cons (ps_set (i := 6) sc_built.nd rfl (.inl rfl) (pe_tup pa_nil))
      (pss_cons (ps_for PassesOwn.never rfl (k_enum K (by rfl) T.b_enumerate (pa_cons (pv 5) pa_nil)) (k_gtup K (n := 2) rfl (pgs_cons (pg_name (i := 7) sc_built.nd rfl (.inl rfl)) (pgs_cons (pg_name (i := 8) sc_built.nd rfl (.inl rfl)) pgs_nil))) (pss_one (ps_if (pt_cmpR (k_ne K hr.units) (pe_op op_mod (pv 8) (pv 0)) pe_int (nomark _)) (pss_one (ps_set (i := 6) sc_built.nd rfl (.inl rfl) (pe_call (ok_plus T) (hr.mono (by decide)) (by rfl) T.d_plus.g T.d_plus.F.kp T.d_plus.b .nil pass0 (pa_cons (pv 0) (pa_cons (pv 6) (pa_cons (pe_call (ok_times T) (hr.mono (by decide)) (by rfl) T.d_times.g T.d_times.F.kp T.d_times.b .nil pass0 (pa_cons (pv 0) (pa_cons (pe_ix (k_ix K) (pv 2) (pv 7) (fun _ _ => rfl)) (pa_cons (pe_call (ok_poly T) (hr.mono (by decide)) (by rfl) T.d_poly.g T.d_poly.F.kp T.d_poly.b .nil pass0 (pa_cons (pv 0) (pa_cons (pe_lst (pa_cons (pv 8) pa_nil)) pa_nil))) pa_nil)))) pa_nil)))))) pss_nil)))
      (pss_one (ps_if (pt_cmpR (k_ne K hr.units) (pv 6) (pe_tup pa_nil) (nomark _)) (pss_one (ps_for PassesOwn.never rfl (k_enum K (by rfl) T.b_enumerate (pa_cons (pe_ix (k_ix K) (pv 2) (pv 4) (fun _ _ => rfl)) pa_nil)) (k_gtup K (n := 2) rfl (pgs_cons (pg_name (i := 9) sc_built.nd rfl (.inl rfl)) (pgs_cons (pg_name (i := 8) sc_built.nd rfl (.inl rfl)) pgs_nil))) (pss_one (ps_asg (pe_call (ok_plus T) (hr.mono (by decide)) (by rfl) T.d_plus.g T.d_plus.F.kp T.d_plus.b .nil pass0 (pa_cons (pv 0) (pa_cons (pe_ix (k_ix K) (pv 3) (pv 9) (fun _ _ => rfl)) (pa_cons (pe_call (ok_times T) (hr.mono (by decide)) (by rfl) T.d_times.g T.d_times.F.kp T.d_times.b .nil pass0 (pa_cons (pv 0) (pa_cons (pv 6) (pa_cons (pe_call (ok_poly T) (hr.mono (by decide)) (by rfl) T.d_poly.g T.d_poly.F.kp T.d_poly.b .nil pass0 (pa_cons (pv 0) (pa_cons (pe_lst (pa_cons (pv 8) pa_nil)) pa_nil))) pa_nil)))) pa_nil)))) (pg_sub (pv 3) (pv 9) set_list))))) pss_nil)))))
      (pss_one (ps_ret (pe_call (ok_poly2 T) (hr.mono (by decide)) (by rfl) T.d_poly2.g T.d_poly2.F.kp T.d_poly2.b .nil pass0 (pa_cons (pv 0) (pa_cons (pv 3) pa_nil)))))))), fun ds r h => ?_⟩)
  · obtain ⟨m, A, rfl, _⟩ := h; rfl
  · obtain ⟨m, A, rfl, hm, hm2, hA, rfl⟩ := h
    have hA1 := hA.1
    have hw := wide_le hA
    walk_at "ev"
    refine ⟨_, ⟨A, _, rfl, .inr rfl, by omega, rfl⟩, ?_⟩
    walk_at "ev"
    rw [show max ((A.map lI).length : Int) (wide A : Int) = ((max A.length (wide A) : Nat) : Int) by rw [List.length_map]; omega]
    refine ⟨_, ⟨m, max A.length (wide A), rfl, hm, hm2, by omega, rfl⟩, ?_⟩
    generalize hN : max A.length (wide A) = N
    generalize hsd : Dt.l ((List.range N).map fun k => tI (nb m k)) = sd
    walk_at "ev"
    refine ev_lstA ?_
    walk_at "ev"
    intro p0 hp0
    walk_at "ev"
    refine rv_mulN (ds := [.t []]) (n := A.length) ⟨_, rfl, put_same⟩ (by rw [List.length_map]) (by simp; omega) (by omega) (.inr fun p hp => ?_)
    rw [rep_one, show List.replicate A.length (Dt.t []) = (List.replicate A.length ([] : List Int)).map tI by rw [List.map_replicate]; rfl]
    walk_at "ev"
    refine wp_forM (α := Nat × List Int) (tg_tup (js := [4, 5]) rfl) (ei_enum ?_)
    walk_at "ev"
    refine ⟨A.map lI, .inl rfl, en 0 A, eR, fun r sl S => ∃ (acc : List (List Int)) (y4 y5 y6 y7 y8 y9 : Option Dt), sl = [some (.i m), some (lL A), some sd, some (.a p), y4, y5, y6, y7, y8, y9] ∧ S p = some (.l (acc.map tI)) ∧ Sz 600 acc ∧ acc.length = A.length ∧
      pol2 m (r.foldl (stO m) acc) = builtM m A, enD_map, ⟨_, none, none, none, none, none, none, rfl, put_same, sz_rep (by omega), by rw [List.length_replicate], rfl⟩, fun q r sl S hq => ?_, fun sl S => ?_⟩
    · rintro ⟨acc, y4, y5, y6, y7, y8, y9, rfl, hS, hz, hl, e⟩
      refine ⟨_, ⟨rfl, rfl⟩, ?_⟩
      have hq' := en_mem hq
      have hql := hA.2 _ hq'.2.2
      have hqw := wide_mem hq'.2.2
      walk_at "ev"
      refine wp_forM (α := Nat × Int) (tg_tup (js := [7, 8]) rfl) (ei_enum ?_)
      walk_at "ev"
      refine ⟨q.2.map Dt.i, .inl rfl, en 0 q.2, eI, fun r' sl S => ∃ (inn : List Int) (y7 y8 : Option Dt), sl = [some (.i m), some (lL A), some sd, some (.a p), some (.i (q.1 : Int)), some (lI q.2), some (tI inn), y7, y8, y9] ∧ S p = some (.l (acc.map tI)) ∧ Red m inn ∧ inn.length ≤ 500 ∧
        r'.foldl (stI m) inn = innerM m q.2, enD_map, ⟨[], y7, y8, rfl, hS, red_nil, by decide, rfl⟩, fun q' r' sl S hq2 => ?_, fun sl S => ?_⟩
      · rintro ⟨inn, y7, y8, rfl, hS, hr1, hl2, e2⟩
        refine ⟨_, ⟨rfl, rfl⟩, ?_⟩
        have hq2' := en_mem hq2
        have e3 : r'.foldl (stI m) (if q'.2 % m = 0 then inn else plusM m inn (timesM m (nb m q'.1) (pol m [q'.2]))) = innerM m q.2 := e2
        walk_at "ev"
        refine nd2 (fun h => ?_) (fun h => ?_)
        · rw [if_pos h] at e3
          refine wp_next ?_
          exact ⟨inn, _, _, rfl, hS, hr1, hl2, e3⟩
        · rw [if_neg h] at e3
          walk_at "ev"
          subst hsd
          refine rv_ix sv_l (atI_nn rfl (rng_at (k := q'.1) (by omega))) ?_
          walk_at "ev"
          refine ev_lst ?_
          walk_at "ev"
          refine ⟨_, ⟨m, [q'.2], _, rfl, .inr rfl, hm, by simp, rfl⟩, ?_⟩
          have l1 : (pol m [q'.2]).length ≤ 1 := pol_len
          have l2 := nb_len (m := m) q'.1
          walk_at "ev"
          refine ⟨_, ⟨m, _, _, rfl, hm, hm2, red_nb hm _, by omega, by omega, rfl⟩, ?_⟩
          have l3 := timesM_len (m := m) (f := nb m q'.1) (g := pol m [q'.2])
          walk_at "ev"
          refine ⟨_, ⟨m, _, _, rfl, hm, by omega, by omega, rfl⟩, ?_⟩
          exact ⟨_, _, _, rfl, hS, red_plusM hm, Nat.le_trans plusM_len (by omega), e3⟩
      · rintro ⟨inn, y7, y8, rfl, hS, hr1, hl2, e2⟩
        have e4 : inn = innerM m q.2 := e2
        have e3 : pol2 m (r.foldl (stO m) (if innerM m q.2 = [] then acc else spread m (innerM m q.2) (nb m q.1) acc)) = builtM m A := e
        walk_at "ev"
        refine rv_ned pl_tI pl_nilT (by decide) (by decide) (n := 1) (m := 1) (fun h => ?_) (fun h => ?_)
        · have h2 : inn = [] := tI_inj h
          rw [← e4, if_pos h2] at e3
          walk_at "ev"
          refine wp_next ?_
          exact ⟨acc, _, _, _, _, _, _, rfl, hS, hz, hl, e3⟩
        · have h2 : ¬ inn = [] := fun z => h (by rw [z]; rfl)
          rw [← e4, if_neg h2] at e3
          have l2 := nb_len (m := m) q.1
          walk_at "ev"
          subst hsd
          refine wp_forM (α := Nat × Int) (tg_tup (js := [9, 8]) rfl) (ei_enum ?_)
          walk_at "ev"
          refine rv_ix sv_l (atI_nn rfl (rng_at (k := q.1) (by omega))) ?_
          walk_at "ev"
          refine ⟨(nb m q.1).map Dt.i, .inr rfl, en 0 (nb m q.1), eI, fun r' sl S => ∃ (acc' : List (List Int)) (y8 y9 : Option Dt), sl = [some (.i m), some (lL A), some (.l ((List.range N).map fun k => tI (nb m k))), some (.a p), some (.i (q.1 : Int)), some (lI q.2), some (tI inn), y7, y8, y9] ∧ S p = some (.l (acc'.map tI)) ∧ Sz 600 acc' ∧ acc'.length = A.length ∧
            r'.foldl (stS m inn) acc' = spread m inn (nb m q.1) acc, enD_map, ⟨acc, y8, y9, rfl, hS, hz, hl, rfl⟩, fun q' r' sl S hq2 => ?_, fun sl S => ?_⟩
          · rintro ⟨acc', y8, y9, rfl, hS, hz', hl', e2⟩
            refine ⟨_, ⟨rfl, rfl⟩, ?_⟩
            have hq2' := en_mem hq2
            have hij : q'.1 < acc'.length := by omega
            refine wp_setL ?_
            walk_at "ev"
            refine rv_ix (sv_a hS) (atI_nn (j := q'.1) rfl (row_gl hij)) ?_
            walk_at "ev"
            refine ev_lst ?_
            walk_at "ev"
            refine ⟨_, ⟨m, [q'.2], _, rfl, .inr rfl, hm, by simp, rfl⟩, ?_⟩
            have l1 : (pol m [q'.2]).length ≤ 1 := pol_len
            walk_at "ev"
            refine ⟨_, ⟨m, _, _, rfl, hm, hm2, hr1, by omega, by omega, rfl⟩, ?_⟩
            have l3 := timesM_len (m := m) (f := inn) (g := pol m [q'.2])
            walk_at "ev"
            refine ⟨_, ⟨m, _, _, rfl, hm, Nat.le_trans (hz'.row _) (by decide), by omega, rfl⟩, ?_⟩
            walk_at "ev"
            refine ⟨p, _, _, q'.1, rfl, rfl, hS, ixN_nn rfl (by rw [List.length_map]; exact hij), ?_⟩
            exact ⟨_, _, _, rfl, by rw [put_same, lst_set], hz'.set (Nat.le_trans plusM_len (Nat.max_le.mpr ⟨hz'.row _, by omega⟩)), by rw [List.length_set]; exact hl', e2⟩
          · rintro ⟨acc', y8, y9, rfl, hS, hz', hl', e2⟩
            have e5 : acc' = spread m inn (nb m q.1) acc := e2
            exact ⟨acc', _, _, _, _, _, _, rfl, hS, hz', hl', by rw [e5]; exact e3⟩
    · rintro ⟨acc, y4, y5, y6, y7, y8, y9, rfl, hS, hz, hl, e⟩
      refine wp_freeze (i := 3) rfl hS ?_
      walk_at "ev"
      refine ⟨_, ⟨m, acc, _, rfl, .inl rfl, hm, hz.mono (by decide), rfl⟩, ?_⟩
      have e2 : pol2 m acc = builtM m A := e
      rw [e2]
def R_is_table (ds : List Dt) (r : Dt) : Prop := ∃ (m : Int) (A : List (List Int)), ds = [.i m, tP A] ∧ RedR m A ∧ Sz 80 A ∧ r = .b true
theorem ok_is_table (T : Txt K mg) : FnOk P w K mg base CX0 2 T.d_is_table.f T.d_is_table.fd ["m", "thing"] (spP K R_is_table) := by
  refine okP T.d_is_table.F sc_is_table (fun ds r h => ?_) (fun cdv A outer s H E hr => ⟨_, (pss_cons (ps_if (PW.pt (pw_or (pt_not (pt_val (pe_callB (k_isi K) (by rfl) T.b_isinstance (by decide +kernel) (pa_cons (pv 1) (pa_cons (pe_bltn (v := .ty "tuple") (by rfl) T.b_tuple (by decide +kernel) rfl) pa_nil))))) (pw_or1 (pt_cmpR op_gt (pe_callB (k_len K) (by rfl) T.b_len (by decide +kernel) (pa_cons (pv 1) pa_nil)) (pe_glob (v := .int 80) (by rfl) T.c_MOST_ROWS.g ⟨_, rfl⟩) (nomark _))))) (pss_one (ps_ret pe_bl)) pss_nil)
      (pss_cons (ps_for PassesOwn.never rfl (k_seq K (pv 1)) (pg_name (i := 2) sc_is_table.nd rfl (.inl rfl)) (pss_one (ps_if (PW.pt (pw_or (pt_not (pt_val (pe_callB (k_isi K) (by rfl) T.b_isinstance (by decide +kernel) (pa_cons (pv 2) (pa_cons (pe_bltn (v := .ty "tuple") (by rfl) T.b_tuple (by decide +kernel) rfl) pa_nil))))) (pw_or (pt_cmpR op_gt (pe_callB (k_len K) (by rfl) T.b_len (by decide +kernel) (pa_cons (pv 2) pa_nil)) (pe_glob (v := .int 80) (by rfl) T.c_MOST_ROWS.g ⟨_, rfl⟩) (nomark _)) (pw_or1 (pt_not (pt_val (pe_callB (k_all K) (by rfl) T.b_all (by decide +kernel) (pa_cons (pe_lc (own := [("one", 3)]) rfl sc_is_table.nd (k_seq K (pv 2)) (blkOk_by (by kernel_rfl)) (fun _ _ _ _ _ => (pg_name (i := 3) sc_is_table.nd rfl (.inl rfl))) (fun _ _ _ _ _ => pts_nil) (fun _ _ _ _ _ => (pe_call (ok_is_rest T) (hr.mono (by decide)) (by rfl) T.d_is_rest.g T.d_is_rest.F.kp T.d_is_rest.b .nil pass0 (pa_cons (pv 0) (pa_cons (pv 3) pa_nil))))) pa_nil)))))))) (pss_one (ps_ret pe_bl)) pss_nil)))
      (pss_one (ps_ret pe_bl)))), fun ds r h => ?_⟩)
  · obtain ⟨m, A, rfl, _⟩ := h; rfl
  · obtain ⟨m, A, rfl, hR, hA, rfl⟩ := h
    walk_at "ev"
    refine dd2 (fun h => absurd hA.1 (by rw [List.length_map] at h; omega)) (fun h => ?_)
    refine wp_next ?_
    refine wp_seq (wp_forM (α := List Int) tg_name (ei_seq ?_))
    walk_at "ev"
    refine ⟨A.map tI, .inl rfl, A, tI, fun r sl S => ∃ (y2 y3 : Option Dt), sl = [some (.i m), some (tP A), y2, y3], rfl, ⟨none, none, rfl⟩, fun row r sl S hrow => ?_, fun sl S => ?_⟩
    · rintro ⟨y2, y3, rfl⟩
      refine ⟨_, rfl, ?_⟩
      have hrl := hA.2 row hrow
      walk_at "ev"
      refine dd3 (fun h => absurd hrl (by rw [List.length_map] at h; omega)) (fun h => ?_)
      walk_at "ev"
      refine ev_lc (α := Int) tg_name (by simp) (ei_seq ?_)
      walk_at "ev"
      refine ⟨row.map Dt.i, .inl rfl, row, Dt.i, fun _ => .b true, rfl, by omega, fun x hx => ⟨_, rfl, ?_⟩, .inl ?_⟩
      · walk_at "ev"
        exact ⟨_, ⟨m, x, rfl, (hR row hrow x hx).1, (hR row hrow x hx).2, rfl⟩, rfl, rfl⟩
      walk_at "ev"
      refine rc_all (bs := row.map fun _ => true) (.inl (by rw [List.map_map]; rfl)) ?_
      have e : (row.map fun _ => true).all id = true := by simp
      rw [e]
      walk_at "ev"
      refine wp_next ?_
      exact ⟨_, _, rfl⟩
    · rintro ⟨y2, y3, rfl⟩
      walk_at "ev"
      rfl
def R_row_of_tops (ds : List Dt) (r : Dt) : Prop := ∃ (m : Int) (i : Nat) (f : List Int), ds = [.i m, .i (i : Int), tI f] ∧ 0 < m ∧ m ≤ 1000 ∧ i ≤ 400 ∧ f.length ≤ 400 ∧ r = lI (topsR m i f)
theorem ok_row_of_tops (T : Txt K mg) : FnOk P w K mg base CX0 3 T.d_row_of_tops.f T.d_row_of_tops.fd ["m", "i", "row"] (spP K R_row_of_tops) := by
  refine okP T.d_row_of_tops.F sc_row_of_tops (fun ds r h => ?_) (fun cdv A outer s H E hr => ⟨_, (pss_one (ps_ret (pe_lc (own := [("j", 3), ("one", 4)]) rfl sc_row_of_tops.nd (k_enum K (by rfl) T.b_enumerate (pa_cons (pv 2) pa_nil)) (blkOk_by (by kernel_rfl)) (fun _ _ _ _ _ => (k_gtup K (n := 2) rfl (pgs_cons (pg_name (i := 3) sc_row_of_tops.nd rfl (.inl rfl)) (pgs_cons (pg_name (i := 4) sc_row_of_tops.nd rfl (.inl rfl)) pgs_nil)))) (fun _ _ _ _ _ => pts_nil) (fun _ _ _ _ _ => (pe_ifExp (pt_cmpR (k_ne K hr.units) (pv 4) pe_int (nomark _)) (pe_op op_mulA (pv 4) (pe_call (ok_top2 T) (hr.mono (by decide)) (by rfl) T.d_top2.g T.d_top2.F.kp T.d_top2.b .nil pass0 (pa_cons (pv 0) (pa_cons (pv 1) (pa_cons (pv 3) pa_nil))))) pe_int))))), fun ds r h => ?_⟩)
  · obtain ⟨m, i, f, rfl, _⟩ := h; rfl
  · obtain ⟨m, i, f, rfl, hm, hm2, hi, hf, rfl⟩ := h
    walk_at "ev"
    refine ev_lc (α := Nat × Int) (tg_tup (js := [3, 4]) rfl) (by simp) (ei_enum ?_)
    walk_at "ev"
    refine ⟨f.map Dt.i, .inr rfl, en 0 f, eI, fun q => .i (q.2 * top m i q.1), enD_map, by rw [en_len]; omega, fun q hq => ⟨_, ⟨rfl, rfl⟩, ?_⟩, .inl ?_⟩
    · have hq' := en_mem hq
      have hb := top_bd hm i q.1
      walk_at "ev"
      refine nd2 (fun h => ?_) (fun h => ?_)
      · walk_at "ev"
        exact ⟨by show _ = Dt.i _; rw [h, Int.zero_mul], rfl⟩
      · walk_at "ev"
        refine ⟨_, ⟨m, i, q.1, rfl, hm, hm2, hi, by omega, rfl⟩, ?_⟩
        refine rv_mulS (.inr ⟨by omega, by omega⟩) ?_
        exact ⟨rfl, rfl⟩
    · unfold lI topsR; rw [List.map_map]; rfl
theorem topsM_eq {m : Int} {A : List (List Int)} : topsM m A = (List.range A.length).map fun i => topsR m i (rowM A i) := by
  unfold topsM
  rw [en_map (d := [])]
  apply List.map_congr_left
  intro i _
  show topsR m (0 + i) _ = topsR m i _
  rw [Nat.zero_add]; rfl
def R_lets_null2 (ds : List Dt) (r : Dt) : Prop := ∃ (m : Int) (B A : List (List Int)), ds = [.i m, tP B, tP A] ∧ 0 < m ∧ m ≤ 1000 ∧ RedR m A ∧ Sz 80 A ∧ B.length ≤ 50000 ∧ builtM m (topsM m A) = B ∧ r = .b true
theorem ok_lets_null2 (T : Txt K mg) : FnOk P w K mg base CX0 5 T.d_lets_null2.f T.d_lets_null2.fd ["m", "P", "thing"] (spP K R_lets_null2) := by
  refine okP T.d_lets_null2.F sc_lets_null2 (fun ds r h => ?_) (fun cdv A outer s H E hr => ⟨_, (pss_cons (ps_if (pt_not (pt_val (pe_call (ok_is_table T) (hr.mono (by decide)) (by rfl) T.d_is_table.g T.d_is_table.F.kp T.d_is_table.b .nil pass0 (pa_cons (pv 0) (pa_cons (pv 2) pa_nil))))) (pss_one ps_never) pss_nil)
      (pss_cons (ps_set (i := 4) sc_lets_null2.nd rfl (.inl rfl) (pe_call (ok_built T) (hr.mono (by decide)) (by rfl) T.d_built.g T.d_built.F.kp T.d_built.b .nil pass0 (pa_cons (pv 0) (pa_cons (pe_lc (own := [("i", 3)]) rfl sc_lets_null2.nd (pi_range1 (by rfl) T.b_range (pa_cons (pe_callB (k_len K) (by rfl) T.b_len (by decide +kernel) (pa_cons (pv 2) pa_nil)) pa_nil)) (blkOk_by (by kernel_rfl)) (fun _ _ _ _ _ => (pg_name (i := 3) sc_lets_null2.nd rfl (.inl rfl))) (fun _ _ _ _ _ => pts_nil) (fun _ _ _ _ _ => (pe_call (ok_row_of_tops T) (hr.mono (by decide)) (by rfl) T.d_row_of_tops.g T.d_row_of_tops.F.kp T.d_row_of_tops.b .nil pass0 (pa_cons (pv 0) (pa_cons (pv 3) (pa_cons (pe_ix (k_ix K) (pv 2) (pv 3) (fun _ _ => rfl)) pa_nil)))))) pa_nil))))
      (pss_cons (ps_for PassesOwn.never rfl (pi_range1 (by rfl) T.b_range (pa_cons (pe_callB (call_max2 rfl) (by rfl) T.b_max (by decide +kernel) (pa_cons (pe_callB (k_len K) (by rfl) T.b_len (by decide +kernel) (pa_cons (pv 1) pa_nil)) (pa_cons (pe_callB (k_len K) (by rfl) T.b_len (by decide +kernel) (pa_cons (pv 4) pa_nil)) pa_nil))) pa_nil)) (pg_name (i := 3) sc_lets_null2.nd rfl (.inl rfl)) (pss_one (ps_if (pt_cmpR (k_ne K hr.units) (pe_call (ok_row_of T) (hr.mono (by decide)) (by rfl) T.d_row_of.g T.d_row_of.F.kp T.d_row_of.b .nil pass0 (pa_cons (pv 1) (pa_cons (pv 3) pa_nil))) (pe_call (ok_row_of T) (hr.mono (by decide)) (by rfl) T.d_row_of.g T.d_row_of.F.kp T.d_row_of.b .nil pass0 (pa_cons (pv 4) (pa_cons (pv 3) pa_nil))) (nomark _)) (pss_one ps_never) pss_nil)))
      (pss_one (ps_ret pe_bl))))), fun ds r h => ?_⟩)
  · obtain ⟨m, B, A, rfl, _⟩ := h; rfl
  · obtain ⟨m, B, A, rfl, hm, hm2, hR, hA, hB, e, rfl⟩ := h
    have hA1 := hA.1
    walk_at "ev"
    refine ⟨_, ⟨m, A, rfl, hR, hA, rfl⟩, ?_⟩
    walk_at "ev"
    refine wp_next ?_
    walk_at "ev"
    refine ev_lcN (by simp) ?_
    walk_at "ev"
    refine ⟨A.length, fun i => lI (topsR m i (rowM A i)), by rw [List.length_map], by omega, fun i hi => ?_, .inl ?_⟩
    · walk_at "ev"
      refine rv_ix sv_t (atI_nn rfl (row_gl hi)) ?_
      walk_at "ev"
      exact ⟨_, ⟨m, i, _, rfl, hm, hm2, by omega, Nat.le_trans (hA.row i) (by decide), rfl⟩, rfl, rfl⟩
    have e2 : (List.range A.length).map (fun i => lI (topsR m i (rowM A i))) = (topsM m A).map lI := by rw [topsM_eq, List.map_map]; rfl
    rw [e2]
    have hz : Sz 400 (topsM m A) := by
      rw [topsM_eq]
      refine sz_mapr _ (by omega) fun i hi => ?_
      unfold topsR
      rw [List.length_map, en_len]
      exact Nat.le_trans (hA.row i) (by decide)
    walk_at "ev"
    refine ⟨_, ⟨m, _, rfl, hm, hm2, hz, rfl⟩, ?_⟩
    rw [e]
    refine wp_seq (wp_forI ?_)
    walk_at "ev"
    refine ⟨max B.length B.length, fun k sl S => ∃ y3 : Option Dt, sl = [some (.i m), some (tP B), some (tP A), y3, some (tP B)], by rw [List.length_map]; simp, by omega, ⟨none, rfl⟩, fun k sl S hk => ?_, fun sl S => ?_⟩
    · rintro ⟨y3, rfl⟩
      walk_at "ev"
      refine ⟨_, ⟨B, k, rfl, rfl⟩, ?_⟩
      walk_at "ev"
      refine ⟨_, ⟨B, k, rfl, rfl⟩, ?_⟩
      refine rv_ned pl_tI pl_tI (by decide) (by decide) (n := 1) (m := 1) (fun h => ?_) (fun h => absurd rfl h)
      walk_at "ev"
      refine wp_next ?_
      exact ⟨_, rfl⟩
    · rintro ⟨y3, rfl⟩
      walk_at "ev"
      rfl
end
end Nf

set_option Elab.async false
set_option linter.all false
set_option maxRecDepth 100000
set_option maxHeartbeats 4000000
namespace Nf
open PySem PySem.Spec PyProof.Rows L2 RT RZ Mz
section
variable {P : Program} {w : World} {K : PySem.W.Frag} {mg : Str → Option Value} {base : Heap}
def R_parted (ds : List Dt) (r : Dt) : Prop := ∃ (m : Int) (f : List Int), ds = [.i m, lI f] ∧ 0 < m ∧ f.length ≤ 400 ∧ r = lI (partM m f)
theorem ok_parted (T : Txt K mg) : FnOk P w K mg base CX0 1 T.d_parted.f T.d_parted.fd ["m", "numbers"] (spP K R_parted) := by
  refine okP T.d_parted.F sc_parted (fun ds r h => ?_) (fun cdv A outer s H E hr => ⟨_, (pss_cons (ps_set (i := 2) sc_parted.nd rfl (.inl rfl) (pe_callTy (k_list K) (by rfl) T.b_list (by decide +kernel) (pa_cons (pv 1) pa_nil)))
      (pss_cons (ps_set (i := 3) sc_parted.nd rfl (.inl rfl) (pe_lst pa_nil))
      (pss_cons (ps_for PassesOwn.never rfl (pi_range1 (by rfl) T.b_range (pa_cons (pe_callB (k_len K) (by rfl) T.b_len (by decide +kernel) (pa_cons (pv 1) pa_nil)) pa_nil)) (pg_name (i := 4) sc_parted.nd rfl (.inl rfl)) (pss_cons (ps_set (i := 5) sc_parted.nd rfl (.inl rfl) (pe_lst pa_nil))
      (pss_cons (ps_set (i := 6) sc_parted.nd rfl (.inl rfl) pe_int)
      (pss_cons (ps_for PassesOwn.never rfl (k_rev K (by rfl) T.b_reversed (pv 2)) (pg_name (i := 7) sc_parted.nd rfl (.inl rfl)) (pss_cons (ps_set (i := 6) sc_parted.nd rfl (.inl rfl) (pe_op op_mod (pe_op (k_add K) (pe_op op_mulA (pv 6) (pv 4)) (pv 7)) (pv 0)))
      (pss_one (ps_expr (k_append K (pv 5) (pa_cons (pv 6) pa_nil))))))
      (pss_cons (ps_expr (k_append K (pv 3) (pa_cons (k_pop K (pv 5)) pa_nil)))
      (pss_one (ps_set (i := 2) sc_parted.nd rfl (.inl rfl) (k_lstRev K rfl (by rfl) T.b_list (by rfl) T.b_reversed (pv 5)))))))))
      (pss_one (ps_ret (pv 3)))))), fun ds r h => ?_⟩)
  · obtain ⟨m, f, rfl, _⟩ := h; rfl
  · obtain ⟨m, f, rfl, hm, hf, rfl⟩ := h
    walk_at "ev"
    refine rk_list sv_l (.inl ?_)
    walk_at "ev"
    refine ev_lstA ?_
    walk_at "ev"
    intro p hp
    refine wp_seq (wp_forI ?_)
    walk_at "ev"
    refine ⟨f.length, fun k sl S => ∃ (lf fd : List Int) (y4 y5 y6 y7 : Option Dt), sl = [some (.i m), some (lI f), some (lI lf), some (.a p), y4, y5, y6, y7] ∧ S p = some (.l (fd.map Dt.i)) ∧ k ≤ f.length ∧ lf.length = f.length - k ∧ fd.length = k ∧
      fd ++ partN m (f.length - k) k lf = partM m f, by rw [List.length_map], by omega, ⟨f, [], none, none, none, none, rfl, put_same, by omega, by omega, rfl, rfl⟩, fun k sl S hk => ?_, fun sl S => ?_⟩
    · rintro ⟨lf, fd, y4, y5, y6, y7, rfl, hS, hk2, hl, hfd, e⟩
      walk_at "ev"
      refine ev_lstA ?_
      walk_at "ev"
      intro q hq
      have hpq : p ≠ q := fun z => by subst z; rw [hS] at hq; cases hq
      walk_at "ev"
      refine wp_forM (α := Int) tg_name (ei_rev ?_)
      walk_at "ev"
      refine ⟨lf.map Dt.i, .inl rfl, lf.reverse, Dt.i, fun r sl S => ∃ (dn : List Int) (y7 : Option Dt), sl = [some (.i m), some (lI f), some (lI lf), some (.a p), some (.i (k : Int)), some (.a q), some (.i ((syn m k dn).headD 0)), y7] ∧ S p = some (.l (fd.map Dt.i)) ∧ S q = some (.l ((syn m k dn).reverse.map Dt.i)) ∧ lf = r.reverse ++ dn,
        by rw [List.map_reverse], ⟨[], y7, rfl, put_keep hS hq, put_same, by rw [List.reverse_reverse, List.append_nil]⟩, fun x r sl S hx => ?_, fun sl S => ?_⟩
      · rintro ⟨dn, y7, rfl, hS, hq2, el⟩
        refine ⟨_, rfl, ?_⟩
        walk_at "ev"
        refine rv_mulS (.inr ⟨by omega, by omega⟩) ?_
        walk_at "ev"
        refine ev_append ?_
        walk_at "ev"
        refine ⟨q, _, rfl, hq2, ?_⟩
        walk_at "ev"
        have hdl : dn.length ≤ lf.length := by rw [el, List.length_append]; omega
        refine ⟨hq2, by rw [List.length_map, List.length_reverse, syn_len]; omega, ?_⟩
        refine ⟨x :: dn, _, rfl, by rw [put_ne hpq]; exact hS, ?_, by rw [el, List.reverse_cons, List.append_assoc]; rfl⟩
        rw [put_same]
        show _ = some (Cel.l (List.map Dt.i ((((syn m k dn).headD 0) * k + x) % m :: syn m k dn).reverse))
        rw [List.reverse_cons, map_snoc]
      · rintro ⟨dn, y7, rfl, hS, hq2, el⟩
        have e2 : lf = dn := el
        subst e2
        cases hsy : syn m k lf with
        | nil => exact absurd (congrArg List.length hsy) (by rw [syn_len, List.length_nil]; omega)
        | cons h t =>
          rw [hsy, List.reverse_cons, map_snoc] at hq2
          walk_at "ev"
          refine ev_append ?_
          walk_at "ev"
          refine ⟨p, _, rfl, hS, ?_⟩
          refine ev_pop ?_
          walk_at "ev"
          refine ⟨q, _, _, rfl, hq2, ?_⟩
          refine ⟨by rw [put_ne hpq]; exact hS, by rw [List.length_map]; omega, ?_⟩
          walk_at "ev"
          refine ev_lstRev ?_
          walk_at "ev"
          refine ⟨_, lv_a (by rw [put_ne hpq.symm, put_same]), .inl ?_⟩
          have el2 : t.length + 1 = lf.length := by
            have := congrArg List.length hsy
            rw [syn_len, List.length_cons] at this
            omega
          refine ⟨t, fd ++ [h], _, _, _, _, by rw [List.map_reverse, List.reverse_reverse]; rfl, by rw [put_same, map_snoc], by omega, by omega, by rw [List.length_append, List.length_singleton]; omega, ?_⟩
          rw [← e, show f.length - k = f.length - (k + 1) + 1 by omega, List.append_assoc]
          show fd ++ ([h] ++ _) = fd ++ ((syn m (k : Int) lf).headD 0 :: partN m (f.length - (k + 1)) (k + 1) (syn m (k : Int) lf).tail)
          rw [hsy]; rfl
    · rintro ⟨lf, fd, y4, y5, y6, y7, rfl, hS, hk2, hl, hfd, e⟩
      refine wp_freeze (i := 3) rfl hS ?_
      walk_at "ev"
      rw [← e, Nat.sub_self]
      show _ = lI (fd ++ [])
      rw [List.append_nil]; rfl
def R_parts2 (ds : List Dt) (r : Dt) : Prop := ∃ (m : Int) (A : List (List Int)), ds = [.i m, tP A] ∧ 0 < m ∧ Sz 400 A ∧ r = lL (parts2M m A)
theorem ok_parts2 (T : Txt K mg) : FnOk P w K mg base CX0 2 T.d_parts2.f T.d_parts2.fd ["m", "P"] (spP K R_parts2) := by
  refine okP T.d_parts2.F sc_parts2 (fun ds r h => ?_) (fun cdv A outer s H E hr => ⟨_, (pss_cons (ps_set (i := 2) sc_parts2.nd rfl (.inr rfl) (pe_call (ok_wide_of T) (hr.mono (by decide)) (by rfl) T.d_wide_of.g T.d_wide_of.F.kp T.d_wide_of.b .nil pass0 (pa_cons (pv 1) pa_nil)))
      (pss_cons (ps_set (i := 3) sc_parts2.nd rfl (.inr rfl) (pe_lc (own := [("row", 5)]) rfl sc_parts2.nd (k_seq K (pv 1)) (blkOk_by (by kernel_rfl)) (fun _ _ _ _ _ => (pg_name (i := 5) sc_parts2.nd rfl (.inl rfl))) (fun _ _ _ _ _ => pts_nil) (fun _ _ _ _ _ => (pe_call (ok_parted T) (hr.mono (by decide)) (by rfl) T.d_parted.g T.d_parted.F.kp T.d_parted.b .nil pass0 (pa_cons (pv 0) (pa_cons (pe_op (k_add K) (pe_callTy (k_list K) (by rfl) T.b_list (by decide +kernel) (pa_cons (pv 5) pa_nil)) (pe_op op_mulA (pe_lst (pa_cons pe_int pa_nil)) (pe_op op_sub (pv 2) (pe_callB (k_len K) (by rfl) T.b_len (by decide +kernel) (pa_cons (pv 5) pa_nil))))) pa_nil))))))
      (pss_cons (ps_set (i := 4) sc_parts2.nd rfl (.inr rfl) (pe_lc (own := [("j", 6)]) rfl sc_parts2.nd (pi_range1 (by rfl) T.b_range (pa_cons (pv 2) pa_nil)) (blkOk_by (by kernel_rfl)) (fun _ _ _ _ _ => (pg_name (i := 6) sc_parts2.nd rfl (.inr rfl))) (fun _ _ _ _ _ => pts_nil) (fun _ _ _ _ _ => (pe_call (ok_parted T) (hr.mono (by decide)) (by rfl) T.d_parted.g T.d_parted.F.kp T.d_parted.b .nil pass0 (pa_cons (pv 0) (pa_cons (pe_lc (own := [("row", 5)]) rfl sc_parts2.nd (k_seq K (pv 3)) (blkOk_by (by kernel_rfl)) (fun _ _ _ _ _ => (pg_name (i := 5) sc_parts2.nd rfl (.inl rfl))) (fun _ _ _ _ _ => pts_nil) (fun _ _ _ _ _ => (pe_ix (k_ix K) (pv 5) (pv 6) (fun _ _ => rfl)))) pa_nil))))))
      (pss_one (ps_ret (pe_lc (own := [("i", 8)]) rfl sc_parts2.nd (pi_range1 (by rfl) T.b_range (pa_cons (pe_callB (k_len K) (by rfl) T.b_len (by decide +kernel) (pa_cons (pv 1) pa_nil)) pa_nil)) (blkOk_by (by kernel_rfl)) (fun _ _ _ _ _ => (pg_name (i := 8) sc_parts2.nd rfl (.inr rfl))) (fun _ _ _ _ _ => pts_nil) (fun _ _ _ _ _ => (pe_lc (own := [("column", 7)]) rfl sc_parts2.nd (k_seq K (pv 4)) (blkOk_by (by kernel_rfl)) (fun _ _ _ _ _ => (pg_name (i := 7) sc_parts2.nd rfl (.inl rfl))) (fun _ _ _ _ _ => pts_nil) (fun _ _ _ _ _ => (pe_ix (k_ix K) (pv 7) (pv 8) (fun _ _ => rfl))))))))))), fun ds r h => ?_⟩)
  · obtain ⟨m, A, rfl, _⟩ := h; rfl
  · obtain ⟨m, A, rfl, hm, hA, rfl⟩ := h
    have hA1 := hA.1
    have hw := wide_le hA
    walk_at "ev"
    refine ⟨_, ⟨A, _, rfl, .inl rfl, by omega, rfl⟩, ?_⟩
    walk_at "ev"
    refine ev_lcI (α := List Int) tg_name (by simp) (ei_seq ?_)
    walk_at "ev"
    refine ⟨A.map tI, .inl rfl, Kp nos, A, tI, fun row => lI (partM m (pad (wide A) row)), rfl, by omega, Kp.refl _, fun row hrow S2 hS2 => ⟨_, rfl, ?_⟩, fun S2 hS2 => .inl ?_⟩
    · have hrl := wide_mem hrow
      walk_at "ev"
      refine rk_list sv_t (.inr fun p hp => ?_)
      walk_at "ev"
      refine ev_lstA ?_
      walk_at "ev"
      intro p0 hp0
      walk_at "ev"
      refine rv_mulN (ds := [.i 0]) (n := wide A - row.length) ⟨_, rfl, put_same⟩ (by rw [List.length_map]; omega) (by simp; omega) (by omega) (.inr fun p3 hp3 => ?_)
      rw [rep_one, rep_ints]
      refine rv_addL ⟨p, rfl, put_keep (put_keep put_same hp0) hp3⟩ ⟨p3, rfl, put_same⟩ (by simp; omega) (.inl ?_)
      walk_at "ev"
      refine ⟨_, ⟨m, pad (wide A) row, by unfold pad lI; rw [List.map_append], hm, by rw [pad_len hrl]; exact hw, rfl⟩, rfl, ?_⟩
      exact ((hS2.put hp).put hp0).put hp3
    · generalize hR : A.map (fun row => partM m (pad (wide A) row)) = R
      have e1 : A.map (fun row => lI (partM m (pad (wide A) row))) = R.map lI := by rw [← hR, List.map_map]; rfl
      rw [e1]
      have hRl : R.length = A.length := by rw [← hR, List.length_map]
      have hRw : ∀ row ∈ R, row.length = wide A := fun row h => by
        rw [← hR] at h
        obtain ⟨x, hx, rfl⟩ := List.mem_map.mp h
        rw [partM_len, pad_len (wide_mem hx)]
      walk_at "ev"
      refine ev_lcN (by simp) ?_
      walk_at "ev"
      refine ⟨wide A, fun j => lI (partM m (R.map fun row => co row j)), rfl, by omega, fun j hj => ?_, .inl ?_⟩
      · walk_at "ev"
        refine ev_lc (α := List Int) tg_name (by simp) (ei_seq ?_)
        walk_at "ev"
        refine ⟨R.map lI, .inr rfl, R, lI, fun row => .i (co row j), rfl, by omega, fun row hrow => ⟨_, rfl, ?_⟩, .inl ?_⟩
        · walk_at "ev"
          refine rv_ix sv_l (atI_nn rfl (co_at (by rw [hRw row hrow]; exact hj))) ?_
          exact ⟨rfl, rfl⟩
        · walk_at "ev"
          exact ⟨_, ⟨m, R.map fun row => co row j, by unfold lI; rw [List.map_map]; rfl, hm, by rw [List.length_map]; omega, rfl⟩, rfl, rfl⟩
      · generalize hC : (List.range (wide A)).map (fun j => partM m (R.map fun row => co row j)) = C
        have e2 : (List.range (wide A)).map (fun j => lI (partM m (R.map fun row => co row j))) = C.map lI := by rw [← hC, List.map_map]; rfl
        rw [e2]
        have hCl : C.length = wide A := by rw [← hC, List.length_map, List.length_range]
        have hCw : ∀ col ∈ C, col.length = A.length := fun col h => by
          rw [← hC] at h
          obtain ⟨x, hx, rfl⟩ := List.mem_map.mp h
          rw [partM_len, List.length_map, hRl]
        walk_at "ev"
        refine ev_lcN (by simp) ?_
        walk_at "ev"
        refine ⟨A.length, fun i => lI (C.map fun col => co col i), by rw [List.length_map], by omega, fun i hi => ?_, .inl ?_⟩
        · refine ev_lc (α := List Int) tg_name (by simp) (ei_seq ?_)
          walk_at "ev"
          refine ⟨C.map lI, .inr rfl, C, lI, fun col => .i (co col i), rfl, by omega, fun col hcol => ⟨_, rfl, ?_⟩, .inl ?_⟩
          · walk_at "ev"
            refine rv_ix sv_l (atI_nn rfl (co_at (by rw [hCw col hcol]; exact hi))) ?_
            exact ⟨rfl, rfl⟩
          · exact ⟨by show _ = Dt.l _; rw [List.map_map]; rfl, rfl⟩
        · unfold parts2M tabT lL
          subst hC
          subst hR
          show _ = Dt.l (((List.range A.length).map fun i => ((List.range (wide A)).map fun j => partM m ((A.map fun row => partM m (pad (wide A) row)).map fun row => co row j)).map fun col => co col i).map lI)
          rw [List.map_map]; rfl
def R_null2_paper (ds : List Dt) (r : Dt) : Prop := ∃ (m : Int) (A : List (List Int)), ds = [.i m, tP A] ∧ 0 < m ∧ m ≤ 1000 ∧ Sz 400 A ∧ r = encO (nullM m A)
theorem ok_null2_paper (T : Txt K mg) : FnOk P w K mg base CX0 3 T.d_null2_paper.f T.d_null2_paper.fd ["m", "P"] (spP K R_null2_paper) := by
  refine okP T.d_null2_paper.F sc_null2_paper (fun ds r h => ?_) (fun cdv A outer s H E hr => ⟨_, (pss_cons (ps_set (i := 2) sc_null2_paper.nd rfl (.inl rfl) (pe_lst pa_nil))
      (pss_cons (ps_for PassesOwn.never rfl (k_enum K (by rfl) T.b_enumerate (pa_cons (pe_call (ok_parts2 T) (hr.mono (by decide)) (by rfl) T.d_parts2.g T.d_parts2.F.kp T.d_parts2.b .nil pass0 (pa_cons (pv 0) (pa_cons (pv 1) pa_nil))) pa_nil)) (k_gtup K (n := 2) rfl (pgs_cons (pg_name (i := 3) sc_null2_paper.nd rfl (.inr rfl)) (pgs_cons (pg_name (i := 4) sc_null2_paper.nd rfl (.inl rfl)) pgs_nil))) (pss_cons (ps_setLc (i := 5) (own := [("j", 6)]) rfl sc_null2_paper.nd rfl rfl (sw_true rfl rfl rfl (by decide +kernel)) (pi_range1 (by rfl) T.b_range (pa_cons (pe_callB (k_len K) (by rfl) T.b_len (by decide +kernel) (pa_cons (pv 4) pa_nil)) pa_nil)) (blkOk_by (by kernel_rfl)) (fun _ _ _ _ _ => (pg_name (i := 6) sc_null2_paper.nd rfl (.inl rfl))) (fun _ _ _ _ _ => pts_nil) (fun _ _ _ _ _ => (pe_call (ok_top2 T) (hr.mono (by decide)) (by rfl) T.d_top2.g T.d_top2.F.kp T.d_top2.b .nil pass0 (pa_cons (pv 0) (pa_cons (pv 3) (pa_cons (pv 6) pa_nil))))))
      (pss_cons (ps_if (pt_val (pe_callB (k_any K) (by rfl) T.b_any (by decide +kernel) (pa_cons (pe_lc (own := [("one", 7), ("by", 8)]) rfl sc_null2_paper.nd (k_zip K (by rfl) T.b_zip (pa_cons (pv 4) (pa_cons (pv 5) pa_nil))) (blkOk_by (by kernel_rfl)) (fun _ _ _ _ _ => (k_gtup K (n := 2) rfl (pgs_cons (pg_name (i := 7) sc_null2_paper.nd rfl (.inl rfl)) (pgs_cons (pg_name (i := 8) sc_null2_paper.nd rfl (.inl rfl)) pgs_nil)))) (fun _ _ _ _ _ => pts_nil) (fun _ _ _ _ _ => (pe_cmpR (k_ne K hr.units) (pe_op op_mod (pv 7) (pv 8)) pe_int (nomark _)))) pa_nil))) (pss_one (ps_ret pe_non)) pss_nil)
      (pss_one (ps_expr (k_append K (pv 2) (pa_cons (pe_callTy (k_tuple K) (by rfl) T.b_tuple (by decide +kernel) (pa_cons (pe_lc (own := [("one", 7), ("by", 8)]) rfl sc_null2_paper.nd (k_zip K (by rfl) T.b_zip (pa_cons (pv 4) (pa_cons (pv 5) pa_nil))) (blkOk_by (by kernel_rfl)) (fun _ _ _ _ _ => (k_gtup K (n := 2) rfl (pgs_cons (pg_name (i := 7) sc_null2_paper.nd rfl (.inl rfl)) (pgs_cons (pg_name (i := 8) sc_null2_paper.nd rfl (.inl rfl)) pgs_nil)))) (fun _ _ _ _ _ => pts_nil) (fun _ _ _ _ _ => (pe_op op_fdiv (pv 7) (pv 8)))) pa_nil)) pa_nil)))))))
      (pss_one (ps_ret (pe_callTy (k_tuple K) (by rfl) T.b_tuple (by decide +kernel) (pa_cons (pv 2) pa_nil)))))), fun ds r h => ?_⟩)
  · obtain ⟨m, A, rfl, _⟩ := h; rfl
  · obtain ⟨m, A, rfl, hm, hm2, hA, rfl⟩ := h
    have hB : Sz 400 (parts2M m A) := sz_tabT hA
    walk_at "ev"
    refine ev_lstA ?_
    walk_at "ev"
    intro p hp
    refine wp_seq (wp_forM (α := Nat × List Int) (tg_tup (js := [3, 4]) rfl) (ei_enum ?_))
    walk_at "ev"
    refine ⟨_, ⟨m, A, rfl, hm, hA, rfl⟩, ?_⟩
    walk_at "ev"
    have hB1 := hB.1
    refine ⟨(parts2M m A).map lI, .inl rfl, en 0 (parts2M m A), eR, fun r sl S => ∃ (acc : List (List Int)) (y3 y4 y5 : Option Dt), sl = [some (.i m), some (tP A), some (.a p), y3, y4, y5, none, none, none] ∧ S p = some (.l (acc.map tI)) ∧ acc.length + r.length ≤ 400 ∧
      (divE m r).map (acc ++ ·) = nullM m A, enD_map, ⟨[], none, none, none, rfl, put_same, by rw [en_len, List.length_nil]; omega, by rw [divE_eq]; unfold nullM; cases divT m 0 (parts2M m A) <;> rfl⟩, fun q r sl S hq => ?_, fun sl S => ?_⟩
    · rintro ⟨acc, y3, y4, y5, rfl, hS, hl, e⟩
      rw [List.length_cons] at hl
      refine ⟨_, ⟨rfl, rfl⟩, ?_⟩
      obtain ⟨i, row⟩ := q
      have hq' := en_mem hq
      have hrl : row.length ≤ 400 := hB.2 _ hq'.2.2
      have hi : i < 400 := Nat.lt_of_lt_of_le hq'.1 hB1
      walk_at "ev"
      refine ev_lcN (by simp) ?_
      walk_at "ev"
      refine ⟨row.length, fun j => .i (top m i j), by rw [List.length_map], by omega, fun j hj => ?_, .inl ?_⟩
      · walk_at "ev"
        exact ⟨_, ⟨m, i, j, rfl, hm, hm2, by omega, by omega, rfl⟩, rfl, rfl⟩
      have et : (List.range row.length).map (fun j => Dt.i (top m i j)) = ((List.range row.length).map fun j => top m i j).map Dt.i := by rw [List.map_map]; rfl
      rw [et]
      have ez := zip_en (f := fun j => top m i j) (xs := row) (k := 0)
      rw [show (fun j => top m i (0 + j)) = fun j => top m i j by funext j; rw [Nat.zero_add]] at ez
      generalize hT : (List.range row.length).map (fun j => top m i j) = T2
      rw [hT] at ez
      have hp2 : ∀ q ∈ row.zip T2, 0 < q.2 ∧ q.2 ≤ m := fun q h => by
        rw [ez] at h
        obtain ⟨z, _, rfl⟩ := List.mem_map.mp h
        exact ⟨top_pos hm _ _, (top_bd hm _ _).2⟩
      have hzl : (row.zip T2).length ≤ 100000 := by rw [ez, List.length_map, en_len]; omega
      walk_at "ev"
      refine ev_lc (α := Int × Int) (tg_tup (js := [7, 8]) rfl) (by simp) (ei_zipL ?_)
      walk_at "ev"
      refine ⟨row.map Dt.i, T2.map Dt.i, rfl, row.zip T2, fun q => .t [.i q.1, .i q.2], fun q => .b (!decide (q.1 % q.2 = 0)), zpD_map, hzl, fun q hq2 => ⟨_, ⟨rfl, rfl⟩, ?_⟩, .inl ?_⟩
      · have := hp2 q hq2
        walk_at "ev"
        exact ⟨rfl, rfl⟩
      walk_at "ev"
      refine rc_any (bs := (row.zip T2).map fun q => !decide (q.1 % q.2 = 0)) (.inl (by rw [List.map_map]; rfl)) ?_
      rw [ez, List.map_map, List.any_map]
      have ea : (List.any (en 0 row) (id ∘ ((fun q : Int × Int => !decide (q.1 % q.2 = 0)) ∘ fun r : Nat × Int => (r.2, top m i r.1)))) = (en 0 row).any fun r => !decide (r.2 % top m i r.1 = 0) := rfl
      rw [ea]
      cases hany : (en 0 row).any fun r => !decide (r.2 % top m i r.1 = 0) with
      | true =>
        walk_at "ev"
        have e2 : nullM m A = none := by
          rw [← e]
          unfold divE divR
          rw [if_pos hany]; rfl
        rw [e2]; rfl
      | false =>
        walk_at "ev"
        refine wp_next ?_
        walk_at "ev"
        refine ev_append ?_
        walk_at "ev"
        refine ⟨p, _, rfl, hS, ?_⟩
        walk_at "ev"
        refine ev_lc (α := Int × Int) (tg_tup (js := [7, 8]) rfl) (by simp) (ei_zipL ?_)
        walk_at "ev"
        refine ⟨row.map Dt.i, T2.map Dt.i, rfl, row.zip T2, fun q => .t [.i q.1, .i q.2], fun q => .i (q.1 / q.2), zpD_map, hzl, fun q hq2 => ⟨_, ⟨rfl, rfl⟩, ?_⟩, .inl ?_⟩
        · have := hp2 q hq2
          walk_at "ev"
          refine rv_fdiv ⟨by omega, by omega⟩ ?_
          exact ⟨rfl, rfl⟩
        walk_at "ev"
        refine rk_tuple sv_l ?_
        refine ⟨hS, by rw [List.length_map]; omega, ?_⟩
        refine ⟨acc ++ [(en 0 row).map fun r => r.2 / top m i r.1], _, _, _, rfl, ?_, by rw [List.length_append, List.length_singleton]; omega, ?_⟩
        · rw [put_same, map_snoc, ez, List.map_map]
          unfold tI
          rw [List.map_map]; rfl
        · rw [← e]
          show _ = Option.map _ (match divR m i row with | none => none | some a => (divE m r).map (a :: ·))
          unfold divR
          rw [if_neg (by rw [hany]; decide)]
          cases divE m r with
          | none => rfl
          | some t =>
            show some (acc ++ [_] ++ t) = some (acc ++ (_ :: t))
            rw [List.append_assoc]; rfl
    · rintro ⟨acc, y3, y4, y5, rfl, hS, hl, e⟩
      walk_at "ev"
      refine rk_tuple (sv_a hS) ?_
      rw [← e]
      show _ = tP (acc ++ [])
      rw [List.append_nil]; rfl
def R_least2 (ds : List Dt) (r : Dt) : Prop := ∃ (m : Int) (A : List (List Int)), ds = [.i m, tP A] ∧ 0 < m ∧ m ≤ 1000 ∧ Sz 400 A ∧ r = tP (least2M m A)
theorem ok_least2 (T : Txt K mg) : FnOk P w K mg base CX0 5 T.d_least2.f T.d_least2.fd ["m", "P"] (spP K R_least2) := by
  refine okP T.d_least2.F sc_least2 (fun ds r h => ?_) (fun cdv A outer s H E hr => ⟨_, (pss_cons (ps_set (i := 2) sc_least2.nd rfl (.inr rfl) (pe_call (ok_parts2 T) (hr.mono (by decide)) (by rfl) T.d_parts2.g T.d_parts2.F.kp T.d_parts2.b .nil pass0 (pa_cons (pv 0) (pa_cons (pv 1) pa_nil))))
      (pss_one (ps_ret (pe_call (ok_built T) (hr.mono (by decide)) (by rfl) T.d_built.g T.d_built.F.kp T.d_built.b .nil pass0 (pa_cons (pv 0) (pa_cons (pe_lc (own := [("i", 4)]) rfl sc_least2.nd (pi_range1 (by rfl) T.b_range (pa_cons (pe_callB (k_len K) (by rfl) T.b_len (by decide +kernel) (pa_cons (pv 2) pa_nil)) pa_nil)) (blkOk_by (by kernel_rfl)) (fun _ _ _ _ _ => (pg_name (i := 4) sc_least2.nd rfl (.inr rfl))) (fun _ _ _ _ _ => pts_nil) (fun _ _ _ _ _ => (pe_lc (own := [("j", 3)]) rfl sc_least2.nd (pi_range1 (by rfl) T.b_range (pa_cons (pe_callB (k_len K) (by rfl) T.b_len (by decide +kernel) (pa_cons (pe_ix (k_ix K) (pv 2) (pv 4) (fun _ _ => rfl)) pa_nil)) pa_nil)) (blkOk_by (by kernel_rfl)) (fun _ _ _ _ _ => (pg_name (i := 3) sc_least2.nd rfl (.inl rfl))) (fun _ _ _ _ _ => pts_nil) (fun _ _ _ _ _ => (pe_op op_mod (pe_ix (k_ix K) (pe_ix (k_ix K) (pv 2) (pv 4) (fun _ _ => rfl)) (pv 3) (fun _ _ => rfl)) (pe_call (ok_top2 T) (hr.mono (by decide)) (by rfl) T.d_top2.g T.d_top2.F.kp T.d_top2.b .nil pass0 (pa_cons (pv 0) (pa_cons (pv 4) (pa_cons (pv 3) pa_nil))))))))) pa_nil)))))), fun ds r h => ?_⟩)
  · obtain ⟨m, A, rfl, _⟩ := h; rfl
  · obtain ⟨m, A, rfl, hm, hm2, hA, rfl⟩ := h
    have hB : Sz 400 (parts2M m A) := sz_tabT hA
    have hB1 := hB.1
    walk_at "ev"
    refine ⟨_, ⟨m, A, rfl, hm, hA, rfl⟩, ?_⟩
    unfold least2M
    generalize parts2M m A = B at hB hB1 ⊢
    walk_at "ev"
    refine ev_lcN (by simp) ?_
    walk_at "ev"
    refine ⟨B.length, fun i => lI ((List.range (rowM B i).length).map fun j => co (rowM B i) j % top m i j), by rw [List.length_map], by omega, fun i hi => ?_, .inl ?_⟩
    · have hrl := hB.row i
      refine ev_lcN (by simp) ?_
      walk_at "ev"
      refine rv_ix sv_l (atI_nn rfl (row_gl hi)) ?_
      walk_at "ev"
      refine ⟨(rowM B i).length, fun j => .i (co (rowM B i) j % top m i j), by rw [List.length_map], by omega, fun j hj => ?_, .inl ?_⟩
      · have := top_pos hm i j
        walk_at "ev"
        refine rv_ix sv_l (atI_nn rfl (row_gl hi)) ?_
        walk_at "ev"
        refine rv_ix sv_l (atI_nn rfl (co_at hj)) ?_
        walk_at "ev"
        refine ⟨_, ⟨m, i, j, rfl, hm, hm2, by omega, by omega, rfl⟩, ?_⟩
        walk_at "ev"
        exact ⟨rfl, rfl⟩
      · exact ⟨by show _ = Dt.l _; rw [List.map_map]; rfl, rfl⟩
    · walk_at "ev"
      refine ⟨_, ⟨m, modT m B, by unfold lL modT; rw [List.map_map]; rfl, hm, hm2, sz_modT hB, rfl⟩, rfl⟩
end
end Nf

set_option Elab.async false
set_option linter.all false
set_option maxRecDepth 100000
set_option maxHeartbeats 4000000
namespace Nf
open PySem PySem.Spec PyProof.Rows L2 RT RZ Mz
theorem sz_hornI {m : Int} {V : List (List Int)} {b : Nat} (hV : Sz b V) : ∀ (l : List Int) {acc : List (List Int)} {n : Nat}, 1 ≤ n → Sz n acc → Sz (n + b * l.length) (l.foldl (fun inner one => plus2M m (times2M m inner V) (pol2 m [[one]])) acc)
  | [], acc, n, _, h => h
  | x :: l, acc, n, hn, h => by
    have := sz_hornI (m := m) hV l (n := n + b) (by omega) (sz_plus2 (m := m) (sz_times2 (m := m) h hV) (sz_pol2 (m := m) (sz_one (x := x) (show 1 ≤ n + b by omega))))
    rw [List.length_cons, Nat.mul_add]
    exact this.mono (by omega)
theorem sz_uponL {m : Int} {U V : List (List Int)} {a b : Nat} (hU : Sz b U) (hV : Sz b V) : ∀ (l : List (List Int)) {acc : List (List Int)} {n : Nat}, (∀ r ∈ l, r.length ≤ a) → 1 + b * a ≤ n → Sz n acc → Sz (n + b * l.length) (l.foldl (fun found row => plus2M m (times2M m found U) (hornI m row V)) acc)
  | [], acc, n, _, _, h => h
  | x :: l, acc, n, hl, hn, h => by
    have e1 : Sz (1 + b * x.length) (hornI m x V) := by
      have := sz_hornI (m := m) hV x.reverse (acc := []) (n := 1) (by omega) sz_nil
      rw [List.length_reverse] at this
      exact this
    have e2 : b * x.length ≤ b * a := Nat.mul_le_mul_left b (hl x List.mem_cons_self)
    have := sz_uponL (m := m) hU hV l (n := n + b) (fun r hr => hl r (List.mem_cons_of_mem _ hr)) (by omega) (sz_plus2 (m := m) (sz_times2 (m := m) h hU) (e1.mono (by omega)))
    rw [List.length_cons, Nat.mul_add]
    exact this.mono (by omega)
theorem sz_upon2 {m : Int} {A U V : List (List Int)} {a b : Nat} (hA : Sz a A) (hU : Sz b U) (hV : Sz b V) : Sz (1 + 2 * (b * a)) (upon2M m A U V) := by
  have := sz_uponL (m := m) hU hV A.reverse (a := a) (acc := []) (n := 1 + b * a) (fun r hr => hA.2 r (List.mem_reverse.mp hr)) (Nat.le_refl _) sz_nil
  rw [List.length_reverse] at this
  have e : b * A.length ≤ b * a := Nat.mul_le_mul_left b hA.1
  exact this.mono (by omega)
theorem sz_inx {f : List Int} {n : Nat} (h : f.length ≤ n) (h1 : 1 ≤ n) : Sz n (inxM f) := by
  unfold inxM
  refine ⟨by rw [List.length_map]; exact h, fun r hr => ?_⟩
  obtain ⟨c, _, rfl⟩ := List.mem_map.mp hr
  split
  · exact Nat.zero_le _
  · exact h1
def enS (s : List Int × Int) : Dt := .t [tI s.1, .i s.2]
def tN (net : Net) : Dt := .t (net.map enS)
def NetOk (m : Int) (net : Net) : Prop := net.length ≤ 100 ∧ ∀ s ∈ net, Red m s.1 ∧ s.1.length ≤ 10
theorem sz_wk {m : Int} {s : List Int × Int} {R : List (List Int)} (h : s.1.length ≤ 10) (hR : Sz 8 R) : Sz 170 (wkM m s R) := by
  unfold wkM
  exact (sz_upon2 (m := m) (sz_inx h (by decide)) (sz_plus2 (m := m) hR (sz_pol2 (m := m) (sz_one (x := s.2) (by decide)))) (sz_nil (n := 8))).mono (by decide)
theorem sz_oX : Sz 8 oX := ⟨by decide, by decide⟩
theorem sz_oY : Sz 8 oY := ⟨by decide, by decide⟩
section
variable {P : Program} {w : World} {K : PySem.W.Frag} {mg : Str → Option Value} {base : Heap}
def R_is_null2 (ds : List Dt) (r : Dt) : Prop := R_lets_null2 ds r
theorem ok_is_null2 (T : Txt K mg) : FnOk P w K mg base CX0 6 T.d_is_null2.f T.d_is_null2.fd ["m", "P", "thing"] (spP K R_is_null2) := by
  refine okP T.d_is_null2.F sc_is_null2 (fun ds r h => ?_) (fun cdv A outer s H E hr => ⟨_, (pss_cons (ps_set (i := 3) sc_is_null2.nd rfl (.inl rfl) pe_bl)
      (pss_cons (ps_try_thru0 (pss_one (ps_set (i := 3) sc_is_null2.nd rfl (.inl rfl) (pe_call (ok_lets_null2 T) (hr.mono (by decide)) (by rfl) T.d_lets_null2.g T.d_lets_null2.F.kp T.d_lets_null2.b .nil pass0 (pa_cons (pv 0) (pa_cons (pv 1) (pa_cons (pv 2) pa_nil)))))))
      (pss_one (ps_ret (pv 3))))), fun ds r h => ?_⟩)
  · obtain ⟨m, B, A, rfl, _⟩ := h; rfl
  · obtain ⟨m, B, A, rfl, hm, hm2, hR, hA, hB, e, rfl⟩ := h
    walk_at "ev"
    refine ⟨_, ⟨m, B, A, rfl, hm, hm2, hR, hA, hB, e, rfl⟩, ?_⟩
    walk_at "ev"
    rfl
def R_has_word (ds : List Dt) (r : Dt) : Prop := ∃ (x : Str) (es : List Dt) (n : Int), ds = [.t (.s x :: es), .s x, .i n] ∧ n = ((es.length + 1 : Nat) : Int) ∧ r = .b true
theorem ok_has_word (T : Txt K mg) : FnOk P w K mg base CX0 1 T.d_has_word.f T.d_has_word.fd ["thing", "word", "many"] (spP K R_has_word) := by
  refine okP T.d_has_word.F sc_has_word (fun ds r h => ?_) (fun cdv A outer s H E hr => ⟨_, (pss_one (ps_ret (pe_and (pe_callB (k_isi K) (by rfl) T.b_isinstance (by decide +kernel) (pa_cons (pv 0) (pa_cons (pe_bltn (v := .ty "tuple") (by rfl) T.b_tuple (by decide +kernel) rfl) pa_nil))) (pe_and (pe_cmpR (k_eq K hr.units) (pe_callB (k_len K) (by rfl) T.b_len (by decide +kernel) (pa_cons (pv 0) pa_nil)) (pv 2) (nomark _)) (pe_and (pe_callB (k_isi K) (by rfl) T.b_isinstance (by decide +kernel) (pa_cons (pe_ix (k_ix K) (pv 0) pe_int (fun _ _ => rfl)) (pa_cons (pe_bltn (v := .ty "str") (by rfl) T.b_str (by decide +kernel) rfl) pa_nil))) (pe_one (pe_cmpR (k_eq K hr.units) (pe_ix (k_ix K) (pv 0) pe_int (fun _ _ => rfl)) (pv 1) (nomark _)))))))), fun ds r h => ?_⟩)
  · obtain ⟨x, es, n, rfl, _⟩ := h; rfl
  · obtain ⟨x, es, n, rfl, hn, rfl⟩ := h
    walk_at "ev"
    refine dd2 (fun h => ?_) (fun h => absurd (by rw [List.length_cons, hn]) h)
    walk_at "ev"
    refine rv_ix sv_t (atI_nn (j := 0) rfl rfl) ?_
    walk_at "ev"
    refine rv_ix sv_t (atI_nn (j := 0) rfl rfl) ?_
    walk_at "ev"
    rw [decide_eq_true rfl]
def R_is_shown (ds : List Dt) (r : Dt) : Prop := ∃ (m : Int) (x : Str) (U V : List (List Int)) (a b : Dt), ds = [.i m, .t [.s x, tP U, tP V, a, b], .s x] ∧ Cn2 m U ∧ Cn2 m V ∧ Sz 1000 U ∧ Sz 1000 V ∧ r = .b true
theorem ok_is_shown (T : Txt K mg) : FnOk P w K mg base CX0 4 T.d_is_shown.f T.d_is_shown.fd ["m", "thing", "word"] (spP K R_is_shown) := by
  refine okP T.d_is_shown.F sc_is_shown (fun ds r h => ?_) (fun cdv A outer s H E hr => ⟨_, (pss_one (ps_ret (pe_and (pe_call (ok_has_word T) (hr.mono (by decide)) (by rfl) T.d_has_word.g T.d_has_word.F.kp T.d_has_word.b .nil pass0 (pa_cons (pv 1) (pa_cons (pv 2) (pa_cons pe_int pa_nil)))) (pe_and (pe_call (ok_is_poly2 T) (hr.mono (by decide)) (by rfl) T.d_is_poly2.g T.d_is_poly2.F.kp T.d_is_poly2.b .nil pass0 (pa_cons (pv 0) (pa_cons (pe_ix (k_ix K) (pv 1) pe_int (fun _ _ => rfl)) pa_nil))) (pe_one (pe_call (ok_is_poly2 T) (hr.mono (by decide)) (by rfl) T.d_is_poly2.g T.d_is_poly2.F.kp T.d_is_poly2.b .nil pass0 (pa_cons (pv 0) (pa_cons (pe_ix (k_ix K) (pv 1) pe_int (fun _ _ => rfl)) pa_nil)))))))), fun ds r h => ?_⟩)
  · obtain ⟨m, x, U, V, a, b, rfl, _⟩ := h; rfl
  · obtain ⟨m, x, U, V, a, b, rfl, hU, hV, zU, zV, rfl⟩ := h
    walk_at "ev"
    refine ⟨_, ⟨x, _, _, rfl, rfl, rfl⟩, ?_⟩
    walk_at "ev"
    refine rv_ix sv_t (atI_nn (j := 1) rfl rfl) ?_
    walk_at "ev"
    refine ⟨_, ⟨m, U, rfl, hU, zU.mono (by decide), rfl⟩, ?_⟩
    walk_at "ev"
    refine rv_ix sv_t (atI_nn (j := 2) rfl rfl) ?_
    walk_at "ev"
    exact ⟨_, ⟨m, V, rfl, hV, zV.mono (by decide), rfl⟩, rfl⟩
/-- a table that tells B as nought -/
def NullP (m : Int) (B A : List (List Int)) : Prop := RedR m A ∧ Sz 80 A ∧ builtM m (topsM m A) = B
def R_ask_both (ds : List Dt) (r : Dt) : Prop := ∃ (m : Int) (A B a b : List (List Int)), ds = [.i m, tP A, tP B, tP a, tP b] ∧ 0 < m ∧ m ≤ 1000 ∧ Sz 1000 A ∧ Sz 1000 B ∧ NullP m (less2M m A oX) a ∧ NullP m (less2M m B oY) b ∧ r = .n
theorem ok_ask_both (T : Txt K mg) : FnOk P w K mg base CX0 7 T.d_ask_both.f T.d_ask_both.fd ["m", "one", "other", "a", "b"] (spP K R_ask_both) := by
  refine okP T.d_ask_both.F sc_ask_both (fun ds r h => ?_) (fun cdv A outer s H E hr => ⟨_, (pss_cons (ps_if (pt_not (pt_val (pe_call (ok_is_null2 T) (hr.mono (by decide)) (by rfl) T.d_is_null2.g T.d_is_null2.F.kp T.d_is_null2.b .nil pass0 (pa_cons (pv 0) (pa_cons (pe_call (ok_less2 T) (hr.mono (by decide)) (by rfl) T.d_less2.g T.d_less2.F.kp T.d_less2.b .nil pass0 (pa_cons (pv 0) (pa_cons (pv 1) (pa_cons (pe_glob (v := .ref T.c_ONLY_X.a) (by rfl) T.c_ONLY_X.g rfl) pa_nil)))) (pa_cons (pv 3) pa_nil)))))) (pss_one ps_never) pss_nil)
      (pss_one (ps_if (pt_not (pt_val (pe_call (ok_is_null2 T) (hr.mono (by decide)) (by rfl) T.d_is_null2.g T.d_is_null2.F.kp T.d_is_null2.b .nil pass0 (pa_cons (pv 0) (pa_cons (pe_call (ok_less2 T) (hr.mono (by decide)) (by rfl) T.d_less2.g T.d_less2.F.kp T.d_less2.b .nil pass0 (pa_cons (pv 0) (pa_cons (pv 2) (pa_cons (pe_glob (v := .ref T.c_ONLY_Y.a) (by rfl) T.c_ONLY_Y.g rfl) pa_nil)))) (pa_cons (pv 4) pa_nil)))))) (pss_one ps_never) pss_nil))), fun ds r h => ?_⟩)
  · obtain ⟨m, A, B, a, b, rfl, _⟩ := h; rfl
  · obtain ⟨m, A, B, a, b, rfl, hm, hm2, zA, zB, ⟨ha1, ha2, ha3⟩, ⟨hb1, hb2, hb3⟩, rfl⟩ := h
    walk_at "ev"
    refine ev_glob (d := tP oX) T.c_ONLY_X.r ?_
    walk_at "ev"
    have z1 : Sz 1000 (less2M m A oX) := sz_less2 zA (sz_oX.mono (by decide))
    have z2 : Sz 1000 (less2M m B oY) := sz_less2 zB (sz_oY.mono (by decide))
    refine ⟨_, ⟨m, A, oX, rfl, hm, zA.mono (by decide), sz_oX.mono (by decide), rfl⟩, ?_⟩
    walk_at "ev"
    refine ⟨_, ⟨m, _, a, rfl, hm, hm2, ha1, ha2, Nat.le_trans z1.1 (by decide), ha3, rfl⟩, ?_⟩
    walk_at "ev"
    refine wp_next ?_
    walk_at "ev"
    refine ev_glob (d := tP oY) T.c_ONLY_Y.r ?_
    walk_at "ev"
    refine ⟨_, ⟨m, B, oY, rfl, hm, zB.mono (by decide), sz_oY.mono (by decide), rfl⟩, ?_⟩
    walk_at "ev"
    refine ⟨_, ⟨m, _, b, rfl, hm, hm2, hb1, hb2, Nat.le_trans z2.1 (by decide), hb3, rfl⟩, ?_⟩
    walk_at "ev"
    refine wp_next ?_
    rfl
def sApart : Str := Str.ofString "apart"
def R_lets_apart (ds : List Dt) (r : Dt) : Prop := ∃ (m : Int) (A B U V a b : List (List Int)), ds = [.i m, tP A, tP B, .t [.s sApart, tP U, tP V, tP a, tP b]] ∧ 0 < m ∧ m ≤ 1000 ∧ Sz 8 A ∧ Sz 8 B ∧ Sz 8 U ∧ Sz 8 V ∧ Cn2 m U ∧ Cn2 m V ∧
  NullP m (less2M m (upon2M m A U V) oX) a ∧ NullP m (less2M m (upon2M m B U V) oY) b ∧ r = .b true
theorem ok_lets_apart (T : Txt K mg) : FnOk P w K mg base CX0 8 T.d_lets_apart.f T.d_lets_apart.fd ["m", "P", "Q", "thing"] (spP K R_lets_apart) := by
  refine okP T.d_lets_apart.F sc_lets_apart (fun ds r h => ?_) (fun cdv A outer s H E hr => ⟨_, (pss_cons (ps_if (pt_val (pe_call (ok_is_shown T) (hr.mono (by decide)) (by rfl) T.d_is_shown.g T.d_is_shown.F.kp T.d_is_shown.b .nil pass0 (pa_cons (pv 0) (pa_cons (pv 3) (pa_cons pe_str pa_nil))))) (pss_cons (ps_asg (pv 3) (k_gtup K (n := 5) rfl (pgs_cons (pg_name (i := 4) sc_lets_apart.nd rfl (.inl rfl)) (pgs_cons (pg_name (i := 5) sc_lets_apart.nd rfl (.inl rfl)) (pgs_cons (pg_name (i := 6) sc_lets_apart.nd rfl (.inl rfl)) (pgs_cons (pg_name (i := 7) sc_lets_apart.nd rfl (.inl rfl)) (pgs_cons (pg_name (i := 8) sc_lets_apart.nd rfl (.inl rfl)) pgs_nil)))))))
      (pss_cons (ps_expr (pe_call (ok_ask_both T) (hr.mono (by decide)) (by rfl) T.d_ask_both.g T.d_ask_both.F.kp T.d_ask_both.b .nil pass0 (pa_cons (pv 0) (pa_cons (pe_call (ok_upon2 T) (hr.mono (by decide)) (by rfl) T.d_upon2.g T.d_upon2.F.kp T.d_upon2.b .nil pass0 (pa_cons (pv 0) (pa_cons (pv 1) (pa_cons (pv 5) (pa_cons (pv 6) pa_nil))))) (pa_cons (pe_call (ok_upon2 T) (hr.mono (by decide)) (by rfl) T.d_upon2.g T.d_upon2.F.kp T.d_upon2.b .nil pass0 (pa_cons (pv 0) (pa_cons (pv 2) (pa_cons (pv 5) (pa_cons (pv 6) pa_nil))))) (pa_cons (pv 7) (pa_cons (pv 8) pa_nil)))))))
      (pss_one (ps_ret pe_bl)))) pss_nil) pss_never), fun ds r h => ?_⟩)
  · obtain ⟨m, A, B, U, V, a, b, rfl, _⟩ := h; rfl
  · obtain ⟨m, A, B, U, V, a, b, rfl, hm, hm2, zA, zB, zU, zV, hU, hV, ha, hb, rfl⟩ := h
    walk_at "ev"
    refine ⟨_, ⟨m, sApart, U, V, _, _, rfl, hU, hV, zU.mono (by decide), zV.mono (by decide), rfl⟩, ?_⟩
    walk_at "ev"
    refine wp_asgG (tg_tup (js := [4, 5, 6, 7, 8]) rfl) ?_
    walk_at "ev"
    refine ⟨_, ⟨rfl, rfl⟩, ?_⟩
    walk_at "ev"
    refine ⟨_, ⟨m, A, U, V, rfl, hm, hm2, zA.mono (by decide), zU.mono (by decide), zV.mono (by decide), rfl⟩, ?_⟩
    walk_at "ev"
    refine ⟨_, ⟨m, B, U, V, rfl, hm, hm2, zB.mono (by decide), zU.mono (by decide), zV.mono (by decide), rfl⟩, ?_⟩
    walk_at "ev"
    refine ⟨_, ⟨m, _, _, a, b, rfl, hm, hm2, (sz_upon2 zA zU zV).mono (by decide), (sz_upon2 zB zU zV).mono (by decide), ha, hb, rfl⟩, ?_⟩
    walk_at "ev"
    rfl
def apartD (m : Int) (A B U V : List (List Int)) : Dt := .t [.s sApart, tP U, tP V, encO (nullM m (less2M m (upon2M m A U V) oX)), encO (nullM m (less2M m (upon2M m B U V) oY))]
def R_apart_paper (ds : List Dt) (r : Dt) : Prop := ∃ (m : Int) (A B U V : List (List Int)), ds = [.i m, tP A, tP B, tP U, tP V] ∧ 0 < m ∧ m ≤ 1000 ∧ Sz 8 A ∧ Sz 8 B ∧ Sz 8 U ∧ Sz 8 V ∧ r = apartD m A B U V
theorem ok_apart_paper (T : Txt K mg) : FnOk P w K mg base CX0 5 T.d_apart_paper.f T.d_apart_paper.fd ["m", "P", "Q", "U", "V"] (spP K R_apart_paper) := by
  refine okP T.d_apart_paper.F sc_apart_paper (fun ds r h => ?_) (fun cdv A outer s H E hr => ⟨_, (pss_cons (ps_set (i := 5) sc_apart_paper.nd rfl (.inl rfl) (pe_call (ok_null2_paper T) (hr.mono (by decide)) (by rfl) T.d_null2_paper.g T.d_null2_paper.F.kp T.d_null2_paper.b .nil pass0 (pa_cons (pv 0) (pa_cons (pe_call (ok_less2 T) (hr.mono (by decide)) (by rfl) T.d_less2.g T.d_less2.F.kp T.d_less2.b .nil pass0 (pa_cons (pv 0) (pa_cons (pe_call (ok_upon2 T) (hr.mono (by decide)) (by rfl) T.d_upon2.g T.d_upon2.F.kp T.d_upon2.b .nil pass0 (pa_cons (pv 0) (pa_cons (pv 1) (pa_cons (pv 3) (pa_cons (pv 4) pa_nil))))) (pa_cons (pe_glob (v := .ref T.c_ONLY_X.a) (by rfl) T.c_ONLY_X.g rfl) pa_nil)))) pa_nil))))
      (pss_one (ps_ret (pe_tup (pa_cons pe_str (pa_cons (pv 3) (pa_cons (pv 4) (pa_cons (pv 5) (pa_cons (pe_call (ok_null2_paper T) (hr.mono (by decide)) (by rfl) T.d_null2_paper.g T.d_null2_paper.F.kp T.d_null2_paper.b .nil pass0 (pa_cons (pv 0) (pa_cons (pe_call (ok_less2 T) (hr.mono (by decide)) (by rfl) T.d_less2.g T.d_less2.F.kp T.d_less2.b .nil pass0 (pa_cons (pv 0) (pa_cons (pe_call (ok_upon2 T) (hr.mono (by decide)) (by rfl) T.d_upon2.g T.d_upon2.F.kp T.d_upon2.b .nil pass0 (pa_cons (pv 0) (pa_cons (pv 2) (pa_cons (pv 3) (pa_cons (pv 4) pa_nil))))) (pa_cons (pe_glob (v := .ref T.c_ONLY_Y.a) (by rfl) T.c_ONLY_Y.g rfl) pa_nil)))) pa_nil))) pa_nil))))))))), fun ds r h => ?_⟩)
  · obtain ⟨m, A, B, U, V, rfl, _⟩ := h; rfl
  · obtain ⟨m, A, B, U, V, rfl, hm, hm2, zA, zB, zU, zV, rfl⟩ := h
    walk_at "ev"
    refine ⟨_, ⟨m, A, U, V, rfl, hm, hm2, zA.mono (by decide), zU.mono (by decide), zV.mono (by decide), rfl⟩, ?_⟩
    have z1 : Sz 200 (upon2M m A U V) := (sz_upon2 zA zU zV).mono (by decide)
    have z2 : Sz 200 (upon2M m B U V) := (sz_upon2 zB zU zV).mono (by decide)
    walk_at "ev"
    refine ev_glob (d := tP oX) T.c_ONLY_X.r ?_
    walk_at "ev"
    refine ⟨_, ⟨m, _, oX, rfl, hm, z1.mono (by decide), sz_oX.mono (by decide), rfl⟩, ?_⟩
    walk_at "ev"
    refine ⟨_, ⟨m, _, rfl, hm, hm2, (sz_less2 z1 (sz_oX.mono (by decide))).mono (by decide), rfl⟩, ?_⟩
    walk_at "ev"
    refine ⟨_, ⟨m, B, U, V, rfl, hm, hm2, zB.mono (by decide), zU.mono (by decide), zV.mono (by decide), rfl⟩, ?_⟩
    walk_at "ev"
    refine ev_glob (d := tP oY) T.c_ONLY_Y.r ?_
    walk_at "ev"
    refine ⟨_, ⟨m, _, oY, rfl, hm, z2.mono (by decide), sz_oY.mono (by decide), rfl⟩, ?_⟩
    walk_at "ev"
    refine ⟨_, ⟨m, _, rfl, hm, hm2, (sz_less2 z2 (sz_oY.mono (by decide))).mono (by decide), rfl⟩, ?_⟩
    walk_at "ev"
    rfl
def R_netted (ds : List Dt) (r : Dt) : Prop := ∃ (m : Int) (net : Net) (x y : Int), ds = [.i m, tN net, .i x, .i y] ∧ 0 < m ∧ m ≤ 1000 ∧ NetOk m net ∧ r = .t [.i (netM m net x y).1, .i (netM m net x y).2]
theorem ok_netted (T : Txt K mg) : FnOk P w K mg base CX0 2 T.d_netted.f T.d_netted.fd ["m", "net", "x", "y"] (spP K R_netted) := by
  refine okP T.d_netted.F sc_netted (fun ds r h => ?_) (fun cdv A outer s H E hr => ⟨_, (pss_cons (ps_for PassesOwn.never rfl (k_seq K (pv 1)) (k_gtup K (n := 2) rfl (pgs_cons (pg_name (i := 4) sc_netted.nd rfl (.inl rfl)) (pgs_cons (pg_name (i := 5) sc_netted.nd rfl (.inl rfl)) pgs_nil))) (pss_one (ps_par (i := 2) (j := 3) rfl sc_netted.nd rfl rfl (by decide) rfl rfl (pa_cons (pv 3) (pa_cons (pe_op op_mod (pe_op (k_add K) (pv 2) (pe_call (ok_value T) (hr.mono (by decide)) (by rfl) T.d_value.g T.d_value.F.kp T.d_value.b .nil pass0 (pa_cons (pv 0) (pa_cons (pv 4) (pa_cons (pe_op (k_add K) (pv 3) (pv 5)) pa_nil))))) (pv 0)) pa_nil)) (by rfl))))
      (pss_one (ps_ret (pe_tup (pa_cons (pv 2) (pa_cons (pv 3) pa_nil)))))), fun ds r h => ?_⟩)
  · obtain ⟨m, net, x, y, rfl, _⟩ := h; rfl
  · obtain ⟨m, net, x, y, rfl, hm, hm2, hn, rfl⟩ := h
    refine wp_seq (wp_forM (α := List Int × Int) (tg_tup (js := [4, 5]) rfl) (ei_seq ?_))
    walk_at "ev"
    refine ⟨net.map enS, .inl rfl, net, enS, fun r sl S => ∃ (x' y' : Int) (y4 y5 : Option Dt), sl = [some (.i m), some (tN net), some (.i x'), some (.i y'), y4, y5] ∧
      r.foldl (fun p s => (p.2, (p.1 + val m s.1 (p.2 + s.2)) % m)) (x', y') = netM m net x y, rfl, ⟨x, y, none, none, rfl, rfl⟩, fun s r sl S hs => ?_, fun sl S => ?_⟩
    · rintro ⟨x', y', y4, y5, rfl, e⟩
      refine ⟨_, ⟨rfl, rfl⟩, ?_⟩
      refine wp_par ?_
      walk_at "ev"
      refine ⟨_, ⟨m, s.1, y' + s.2, rfl, hm, (hn.2 s hs).1, hm2, rfl⟩, ?_⟩
      walk_at "ev"
      exact ⟨_, _, rfl, _, _, _, _, rfl, e⟩
    · rintro ⟨x', y', y4, y5, rfl, e⟩
      walk_at "ev"
      have e2 : (x', y') = netM m net x y := e
      rw [← e2]
def R_unnetted (ds : List Dt) (r : Dt) : Prop := ∃ (m : Int) (net : Net) (x y : Int), ds = [.i m, tN net, .i x, .i y] ∧ 0 < m ∧ m ≤ 1000 ∧ NetOk m net ∧ r = .t [.i (unnetM m net x y).1, .i (unnetM m net x y).2]
theorem ok_unnetted (T : Txt K mg) : FnOk P w K mg base CX0 2 T.d_unnetted.f T.d_unnetted.fd ["m", "net", "x", "y"] (spP K R_unnetted) := by
  refine okP T.d_unnetted.F sc_unnetted (fun ds r h => ?_) (fun cdv A outer s H E hr => ⟨_, (pss_cons (ps_for PassesOwn.never rfl (k_rev K (by rfl) T.b_reversed (pv 1)) (k_gtup K (n := 2) rfl (pgs_cons (pg_name (i := 4) sc_unnetted.nd rfl (.inl rfl)) (pgs_cons (pg_name (i := 5) sc_unnetted.nd rfl (.inl rfl)) pgs_nil))) (pss_one (ps_par (i := 2) (j := 3) rfl sc_unnetted.nd rfl rfl (by decide) rfl rfl (pa_cons (pe_op op_mod (pe_op op_sub (pv 3) (pe_call (ok_value T) (hr.mono (by decide)) (by rfl) T.d_value.g T.d_value.F.kp T.d_value.b .nil pass0 (pa_cons (pv 0) (pa_cons (pv 4) (pa_cons (pe_op (k_add K) (pv 2) (pv 5)) pa_nil))))) (pv 0)) (pa_cons (pv 2) pa_nil)) (by rfl))))
      (pss_one (ps_ret (pe_tup (pa_cons (pv 2) (pa_cons (pv 3) pa_nil)))))), fun ds r h => ?_⟩)
  · obtain ⟨m, net, x, y, rfl, _⟩ := h; rfl
  · obtain ⟨m, net, x, y, rfl, hm, hm2, hn, rfl⟩ := h
    refine wp_seq (wp_forM (α := List Int × Int) (tg_tup (js := [4, 5]) rfl) (ei_rev ?_))
    walk_at "ev"
    refine ⟨net.map enS, .inr rfl, net.reverse, enS, fun r sl S => ∃ (x' y' : Int) (y4 y5 : Option Dt), sl = [some (.i m), some (tN net), some (.i x'), some (.i y'), y4, y5] ∧
      r.foldl (fun p s => ((p.2 - val m s.1 (p.1 + s.2)) % m, p.1)) (x', y') = unnetM m net x y, by rw [List.map_reverse], ⟨x, y, none, none, rfl, rfl⟩, fun s r sl S hs => ?_, fun sl S => ?_⟩
    · rintro ⟨x', y', y4, y5, rfl, e⟩
      refine ⟨_, ⟨rfl, rfl⟩, ?_⟩
      refine wp_par ?_
      walk_at "ev"
      refine ⟨_, ⟨m, s.1, x' + s.2, rfl, hm, (hn.2 s (List.mem_reverse.mp hs)).1, hm2, rfl⟩, ?_⟩
      walk_at "ev"
      exact ⟨_, _, rfl, _, _, _, _, rfl, e⟩
    · rintro ⟨x', y', y4, y5, rfl, e⟩
      walk_at "ev"
      have e2 : (x', y') = unnetM m net x y := e
      rw [← e2]
def R_with_key (ds : List Dt) (r : Dt) : Prop := ∃ (m : Int) (s : List Int × Int) (R : List (List Int)), ds = [.i m, enS s, tP R] ∧ 0 < m ∧ m ≤ 1000 ∧ s.1.length ≤ 10 ∧ Sz 8 R ∧ r = tP (wkM m s R)
theorem ok_with_key (T : Txt K mg) : FnOk P w K mg base CX0 5 T.d_with_key.f T.d_with_key.fd ["m", "step", "R"] (spP K R_with_key) := by
  refine okP T.d_with_key.F sc_with_key (fun ds r h => ?_) (fun cdv A outer s H E hr => ⟨_, (pss_one (ps_ret (pe_call (ok_upon2 T) (hr.mono (by decide)) (by rfl) T.d_upon2.g T.d_upon2.F.kp T.d_upon2.b .nil pass0 (pa_cons (pv 0) (pa_cons (pe_call (ok_in_x T) (hr.mono (by decide)) (by rfl) T.d_in_x.g T.d_in_x.F.kp T.d_in_x.b .nil pass0 (pa_cons (pe_ix (k_ix K) (pv 1) pe_int (fun _ _ => rfl)) pa_nil)) (pa_cons (pe_call (ok_plus2 T) (hr.mono (by decide)) (by rfl) T.d_plus2.g T.d_plus2.F.kp T.d_plus2.b .nil pass0 (pa_cons (pv 0) (pa_cons (pv 2) (pa_cons (pe_call (ok_poly2 T) (hr.mono (by decide)) (by rfl) T.d_poly2.g T.d_poly2.F.kp T.d_poly2.b .nil pass0 (pa_cons (pv 0) (pa_cons (pe_lst (pa_cons (pe_lst (pa_cons (pe_ix (k_ix K) (pv 1) pe_int (fun _ _ => rfl)) pa_nil)) pa_nil)) pa_nil))) pa_nil)))) (pa_cons (pe_tup pa_nil) pa_nil))))))), fun ds r h => ?_⟩)
  · obtain ⟨m, s, R, rfl, _⟩ := h; rfl
  · obtain ⟨m, s, R, rfl, hm, hm2, hs, hR, rfl⟩ := h
    walk_at "ev"
    refine rv_ix sv_t (atI_nn (j := 0) rfl rfl) ?_
    walk_at "ev"
    refine ⟨_, ⟨s.1, rfl, by omega, rfl⟩, ?_⟩
    walk_at "ev"
    refine ev_lst ?_
    walk_at "ev"
    refine ev_lst ?_
    walk_at "ev"
    refine rv_ix sv_t (atI_nn (j := 1) rfl rfl) ?_
    walk_at "ev"
    refine ⟨_, ⟨m, [[s.2]], _, rfl, .inr rfl, hm, sz_one (by decide), rfl⟩, ?_⟩
    have z1 : Sz 8 (pol2 m [[s.2]]) := sz_pol2 (sz_one (by decide))
    walk_at "ev"
    refine ⟨_, ⟨m, R, _, rfl, hm, hR.mono (by decide), z1.mono (by decide), rfl⟩, ?_⟩
    walk_at "ev"
    exact ⟨_, ⟨m, _, _, [], rfl, hm, hm2, (sz_inx hs (by decide)).mono (by decide), (sz_plus2 hR z1).mono (by decide), sz_nil, rfl⟩, rfl⟩
theorem netP_cons {m : Int} {A R : List (List Int)} {s : List Int × Int} {r : Net} : netP m A R (s :: r) = (nextM m A R s, nullM m (less2M m (plus2M m A (wkM m s R)) (nextM m A R s))) :: netP m R (nextM m A R s) r := by rw [netP]
theorem netW_cons {m : Int} {A R : List (List Int)} {s : List Int × Int} {r : Net} : netW m A R (s :: r) = netW m R (nextM m A R s) r := by rw [netW]
/-- the least forms are small -/
def Sm (m : Int) : Prop := ∀ A, Sz 4 (least2M m A)
abbrev eN (q : List (List Int) × Option (List (List Int))) : Dt := .t [tP q.1, encO q.2]
def R_net_paper (ds : List Dt) (r : Dt) : Prop := ∃ (m : Int) (net : Net), ds = [.i m, tN net] ∧ 0 < m ∧ m ≤ 1000 ∧ Sm m ∧ NetOk m net ∧ r = .t ((netP m oX oY net).map eN)
theorem ok_net_paper (T : Txt K mg) : FnOk P w K mg base CX0 6 T.d_net_paper.f T.d_net_paper.fd ["m", "net"] (spP K R_net_paper) := by
  refine okP T.d_net_paper.F sc_net_paper (fun ds r h => ?_) (fun cdv A outer s H E hr => ⟨_, (pss_cons (ps_set (i := 2) sc_net_paper.nd rfl (.inl rfl) (pe_lst pa_nil))
      (pss_cons (ps_par (i := 3) (j := 4) rfl sc_net_paper.nd rfl rfl (by decide) rfl rfl (pa_cons (pe_glob (v := .ref T.c_ONLY_X.a) (by rfl) T.c_ONLY_X.g rfl) (pa_cons (pe_glob (v := .ref T.c_ONLY_Y.a) (by rfl) T.c_ONLY_Y.g rfl) pa_nil)) (by rfl))
      (pss_cons (ps_for PassesOwn.never rfl (k_seq K (pv 1)) (pg_name (i := 5) sc_net_paper.nd rfl (.inl rfl)) (pss_cons (ps_set (i := 6) sc_net_paper.nd rfl (.inl rfl) (pe_call (ok_plus2 T) (hr.mono (by decide)) (by rfl) T.d_plus2.g T.d_plus2.F.kp T.d_plus2.b .nil pass0 (pa_cons (pv 0) (pa_cons (pv 3) (pa_cons (pe_call (ok_with_key T) (hr.mono (by decide)) (by rfl) T.d_with_key.g T.d_with_key.F.kp T.d_with_key.b .nil pass0 (pa_cons (pv 0) (pa_cons (pv 5) (pa_cons (pv 4) pa_nil)))) pa_nil)))))
      (pss_cons (ps_set (i := 7) sc_net_paper.nd rfl (.inl rfl) (pe_call (ok_least2 T) (hr.mono (by decide)) (by rfl) T.d_least2.g T.d_least2.F.kp T.d_least2.b .nil pass0 (pa_cons (pv 0) (pa_cons (pv 6) pa_nil))))
      (pss_cons (ps_expr (k_append K (pv 2) (pa_cons (pe_tup (pa_cons (pv 7) (pa_cons (pe_call (ok_null2_paper T) (hr.mono (by decide)) (by rfl) T.d_null2_paper.g T.d_null2_paper.F.kp T.d_null2_paper.b .nil pass0 (pa_cons (pv 0) (pa_cons (pe_call (ok_less2 T) (hr.mono (by decide)) (by rfl) T.d_less2.g T.d_less2.F.kp T.d_less2.b .nil pass0 (pa_cons (pv 0) (pa_cons (pv 6) (pa_cons (pv 7) pa_nil)))) pa_nil))) pa_nil))) pa_nil)))
      (pss_one (ps_par (i := 3) (j := 4) rfl sc_net_paper.nd rfl rfl (by decide) rfl rfl (pa_cons (pv 4) (pa_cons (pv 7) pa_nil)) (by rfl)))))))
      (pss_one (ps_ret (pe_callTy (k_tuple K) (by rfl) T.b_tuple (by decide +kernel) (pa_cons (pv 2) pa_nil))))))), fun ds r h => ?_⟩)
  · obtain ⟨m, net, rfl, _⟩ := h; rfl
  · obtain ⟨m, net, rfl, hm, hm2, hsm, hn, rfl⟩ := h
    have hn1 := hn.1
    walk_at "ev"
    refine ev_lstA ?_
    walk_at "ev"
    intro p hp
    refine wp_seq (wp_par ?_)
    walk_at "ev"
    refine ev_glob (d := tP oX) T.c_ONLY_X.r ?_
    walk_at "ev"
    refine ev_glob (d := tP oY) T.c_ONLY_Y.r ?_
    walk_at "ev"
    refine ⟨_, _, rfl, ?_⟩
    refine wp_seq (wp_forM (α := List Int × Int) tg_name (ei_seq ?_))
    walk_at "ev"
    refine ⟨net.map enS, .inl rfl, net, enS, fun r sl S => ∃ (A R : List (List Int)) (acc : List (List (List Int) × Option (List (List Int)))) (y5 y6 y7 : Option Dt), sl = [some (.i m), some (tN net), some (.a p), some (tP A), some (tP R), y5, y6, y7] ∧ S p = some (.l (acc.map eN)) ∧ Sz 8 A ∧ Sz 8 R ∧ acc.length + r.length ≤ 100 ∧
      acc ++ netP m A R r = netP m oX oY net, rfl, ⟨oX, oY, [], none, none, none, rfl, put_same, sz_oX, sz_oY, by rw [List.length_nil]; omega, rfl⟩, fun s r sl S hs => ?_, fun sl S => ?_⟩
    · rintro ⟨A, R, acc, y5, y6, y7, rfl, hS, zA, zR, hl, e⟩
      rw [List.length_cons] at hl
      refine ⟨_, rfl, ?_⟩
      have hsl := (hn.2 s hs).2
      have zw := sz_wk (m := m) hsl zR
      walk_at "ev"
      refine ⟨_, ⟨m, s, R, rfl, hm, hm2, hsl, zR, rfl⟩, ?_⟩
      walk_at "ev"
      refine ⟨_, ⟨m, A, _, rfl, hm, zA.mono (by decide), zw.mono (by decide), rfl⟩, ?_⟩
      have zp : Sz 200 (plus2M m A (wkM m s R)) := sz_plus2 (zA.mono (by decide)) (zw.mono (by decide))
      walk_at "ev"
      refine ⟨tP (nextM m A R s), ⟨m, _, rfl, hm, hm2, zp.mono (by decide), rfl⟩, ?_⟩
      have zn : Sz 4 (nextM m A R s) := hsm _
      have hN : nextM m A R s = nextM m A R s := rfl
      revert zn hN
      generalize hX : nextM m A R s = X
      intro zn _
      walk_at "ev"
      refine ev_append ?_
      walk_at "ev"
      refine ⟨p, _, rfl, hS, ?_⟩
      walk_at "ev"
      refine ⟨_, ⟨m, _, X, rfl, hm, zp.mono (by decide), zn.mono (by decide), rfl⟩, ?_⟩
      walk_at "ev"
      refine ⟨_, ⟨m, _, rfl, hm, hm2, (sz_less2 zp (zn.mono (by decide))).mono (by decide), rfl⟩, ?_⟩
      walk_at "ev"
      refine ⟨hS, by rw [List.length_map]; omega, ?_⟩
      refine wp_par ?_
      walk_at "ev"
      refine ⟨_, _, rfl, ?_⟩
      refine ⟨R, X, acc ++ [(X, nullM m (less2M m (plus2M m A (wkM m s R)) X))], _, _, _, rfl, by rw [put_same, map_snoc], zR, zn.mono (by decide), by rw [List.length_append, List.length_singleton]; omega, ?_⟩
      rw [← e, List.append_assoc, netP_cons, List.singleton_append, hX]
    · rintro ⟨A, R, acc, y5, y6, y7, rfl, hS, zA, zR, hl, e⟩
      walk_at "ev"
      refine rk_tuple (sv_a hS) ?_
      rw [← e, netP, List.append_nil]
theorem netW_last {m : Int} : ∀ (net : Net) (A R : List (List Int)) (L : List (List (List Int))), L = A :: R :: (netP m A R net).map (·.1) → L[L.length - 2]? = some (netW m A R net).1 ∧ L[L.length - 1]? = some (netW m A R net).2
  | [], A, R, L, e => by subst e; exact ⟨rfl, rfl⟩
  | s :: r, A, R, L, e => by
    have h := netW_last (m := m) r R (nextM m A R s) _ rfl
    rw [netP_cons, List.map_cons] at e
    rw [netW_cons]
    dsimp only at e
    generalize nextM m A R s = X at h e ⊢
    have hl : 2 ≤ (R :: X :: (netP m R X r).map (·.1)).length := by rw [List.length_cons, List.length_cons]; omega
    generalize (R :: X :: (netP m R X r).map (·.1)) = L2 at h hl e
    subst e
    rw [List.length_cons, show L2.length + 1 - 2 = (L2.length - 2) + 1 by omega, show L2.length + 1 - 1 = (L2.length - 1) + 1 by omega, List.getElem?_cons_succ, List.getElem?_cons_succ]
    exact h
theorem netP_len {m : Int} : ∀ (net : Net) (A R : List (List Int)), (netP m A R net).length = net.length
  | [], _, _ => rfl
  | s :: r, A, R => by rw [netP_cons, List.length_cons, netP_len r, List.length_cons]
def R_net_whole (ds : List Dt) (r : Dt) : Prop := ∃ (m : Int) (net : Net), ds = [.i m, tN net] ∧ 0 < m ∧ m ≤ 1000 ∧ Sm m ∧ NetOk m net ∧ r = .t [tP (netW m oX oY net).1, tP (netW m oX oY net).2]
theorem ok_net_whole (T : Txt K mg) : FnOk P w K mg base CX0 7 T.d_net_whole.f T.d_net_whole.fd ["m", "net"] (spP K R_net_whole) := by
  refine okP T.d_net_whole.F sc_net_whole (fun ds r h => ?_) (fun cdv A outer s H E hr => ⟨_, (pss_cons (ps_set (i := 2) sc_net_whole.nd rfl (.inl rfl) (pe_op (k_add K) (pe_lst (pa_cons (pe_glob (v := .ref T.c_ONLY_X.a) (by rfl) T.c_ONLY_X.g rfl) (pa_cons (pe_glob (v := .ref T.c_ONLY_Y.a) (by rfl) T.c_ONLY_Y.g rfl) pa_nil))) (pe_lc (own := [("Q", 3), ("a", 4)]) rfl sc_net_whole.nd (k_seq K (pe_call (ok_net_paper T) (hr.mono (by decide)) (by rfl) T.d_net_paper.g T.d_net_paper.F.kp T.d_net_paper.b .nil pass0 (pa_cons (pv 0) (pa_cons (pv 1) pa_nil)))) (blkOk_by (by kernel_rfl)) (fun _ _ _ _ _ => (k_gtup K (n := 2) rfl (pgs_cons (pg_name (i := 3) sc_net_whole.nd rfl (.inl rfl)) (pgs_cons (pg_name (i := 4) sc_net_whole.nd rfl (.inl rfl)) pgs_nil)))) (fun _ _ _ _ _ => pts_nil) (fun _ _ _ _ _ => (pv 3)))))
      (pss_one (ps_ret (pe_tup (pa_cons (pe_ix (k_ix K) (pv 2) (pe_un un_neg pe_int) (fun _ _ => rfl)) (pa_cons (pe_ix (k_ix K) (pv 2) (pe_un un_neg pe_int) (fun _ _ => rfl)) pa_nil)))))), fun ds r h => ?_⟩)
  · obtain ⟨m, net, rfl, _⟩ := h; rfl
  · obtain ⟨m, net, rfl, hm, hm2, hsm, hn, rfl⟩ := h
    have hn1 := hn.1
    have hpl := netP_len (m := m) net oX oY
    walk_at "ev"
    refine ev_lstA ?_
    walk_at "ev"
    refine ev_glob (d := tP oX) T.c_ONLY_X.r ?_
    walk_at "ev"
    refine ev_glob (d := tP oY) T.c_ONLY_Y.r ?_
    walk_at "ev"
    intro p hp
    refine ev_lc (α := List (List Int) × Option (List (List Int))) (tg_tup (js := [3, 4]) rfl) (by simp) (ei_seq ?_)
    walk_at "ev"
    refine ⟨_, ⟨m, net, rfl, hm, hm2, hsm, hn, rfl⟩, ?_⟩
    refine ⟨(netP m oX oY net).map eN, .inl rfl, netP m oX oY net, eN, fun q => tP q.1, rfl, by omega, fun q hq => ⟨_, ⟨rfl, rfl⟩, ?_⟩, .inr fun p2 hp2 => ?_⟩
    · walk_at "ev"
      exact ⟨rfl, rfl⟩
    refine rv_addL ⟨p, rfl, put_keep put_same hp2⟩ ⟨p2, rfl, put_same⟩ (by simp; omega) (.inl ?_)
    have e1 : [tP oX, tP oY] ++ (netP m oX oY net).map (fun q => tP q.1) = (oX :: oY :: (netP m oX oY net).map (·.1)).map tP := by
      rw [List.map_cons, List.map_cons, List.map_map]; rfl
    rw [e1]
    have e2 := netW_last (m := m) net oX oY _ rfl
    have hl : 2 ≤ (oX :: oY :: (netP m oX oY net).map (·.1)).length := by rw [List.length_cons, List.length_cons]; omega
    generalize (oX :: oY :: (netP m oX oY net).map (·.1)) = L at e2 hl ⊢
    walk_at "ev"
    refine rv_ix sv_l (atI_neg (k := 2) (by decide) (by rw [List.length_map]; exact hl) (by rw [List.length_map, List.getElem?_map, e2.1]; rfl)) ?_
    walk_at "ev"
    refine rv_ix sv_l (atI_neg (k := 1) (by decide) (by rw [List.length_map]; omega) (by rw [List.length_map, List.getElem?_map, e2.2]; rfl)) ?_
    walk_at "ev"
    rfl
theorem sz_netW {m : Int} (h : Sm m) : ∀ (net : Net) {A R : List (List Int)}, Sz 8 A → Sz 8 R → Sz 8 (netW m A R net).1 ∧ Sz 8 (netW m A R net).2
  | [], A, R, h1, h2 => ⟨h1, h2⟩
  | s :: r, A, R, h1, h2 => by rw [netW_cons]; exact sz_netW h r h2 ((h _).mono (by decide))
def R_net_apart (ds : List Dt) (r : Dt) : Prop := ∃ (m : Int) (net : Net), ds = [.i m, tN net] ∧ 0 < m ∧ m ≤ 1000 ∧ Sm m ∧ NetOk m net ∧ r = apartD m (netW m oX oY net).1 (netW m oX oY net).2 (netUV m net).1 (netUV m net).2
theorem ok_net_apart (T : Txt K mg) : FnOk P w K mg base CX0 8 T.d_net_apart.f T.d_net_apart.fd ["m", "net"] (spP K R_net_apart) := by
  refine okP T.d_net_apart.F sc_net_apart (fun ds r h => ?_) (fun cdv A outer s H E hr => ⟨_, (pss_cons (ps_par (i := 2) (j := 3) rfl sc_net_apart.nd rfl rfl (by decide) rfl rfl (pa_cons (pe_glob (v := .ref T.c_ONLY_X.a) (by rfl) T.c_ONLY_X.g rfl) (pa_cons (pe_glob (v := .ref T.c_ONLY_Y.a) (by rfl) T.c_ONLY_Y.g rfl) pa_nil)) (by rfl))
      (pss_cons (ps_for PassesOwn.never rfl (k_rev K (by rfl) T.b_reversed (pv 1)) (pg_name (i := 4) sc_net_apart.nd rfl (.inl rfl)) (pss_one (ps_par (i := 2) (j := 3) rfl sc_net_apart.nd rfl rfl (by decide) rfl rfl (pa_cons (pe_call (ok_least2 T) (hr.mono (by decide)) (by rfl) T.d_least2.g T.d_least2.F.kp T.d_least2.b .nil pass0 (pa_cons (pv 0) (pa_cons (pe_call (ok_less2 T) (hr.mono (by decide)) (by rfl) T.d_less2.g T.d_less2.F.kp T.d_less2.b .nil pass0 (pa_cons (pv 0) (pa_cons (pv 3) (pa_cons (pe_call (ok_with_key T) (hr.mono (by decide)) (by rfl) T.d_with_key.g T.d_with_key.F.kp T.d_with_key.b .nil pass0 (pa_cons (pv 0) (pa_cons (pv 4) (pa_cons (pv 2) pa_nil)))) pa_nil)))) pa_nil))) (pa_cons (pv 2) pa_nil)) (by rfl))))
      (pss_cons (ps_asg (pe_call (ok_net_whole T) (hr.mono (by decide)) (by rfl) T.d_net_whole.g T.d_net_whole.F.kp T.d_net_whole.b .nil pass0 (pa_cons (pv 0) (pa_cons (pv 1) pa_nil))) (k_gtup K (n := 2) rfl (pgs_cons (pg_name (i := 5) sc_net_apart.nd rfl (.inl rfl)) (pgs_cons (pg_name (i := 6) sc_net_apart.nd rfl (.inl rfl)) pgs_nil))))
      (pss_one (ps_ret (pe_call (ok_apart_paper T) (hr.mono (by decide)) (by rfl) T.d_apart_paper.g T.d_apart_paper.F.kp T.d_apart_paper.b .nil pass0 (pa_cons (pv 0) (pa_cons (pv 5) (pa_cons (pv 6) (pa_cons (pv 2) (pa_cons (pv 3) pa_nil))))))))))), fun ds r h => ?_⟩)
  · obtain ⟨m, net, rfl, _⟩ := h; rfl
  · obtain ⟨m, net, rfl, hm, hm2, hsm, hn, rfl⟩ := h
    have hn1 := hn.1
    have zW := sz_netW hsm net sz_oX sz_oY
    refine wp_seq (wp_par ?_)
    walk_at "ev"
    refine ev_glob (d := tP oX) T.c_ONLY_X.r ?_
    walk_at "ev"
    refine ev_glob (d := tP oY) T.c_ONLY_Y.r ?_
    walk_at "ev"
    refine ⟨_, _, rfl, ?_⟩
    refine wp_seq (wp_forM (α := List Int × Int) tg_name (ei_rev ?_))
    walk_at "ev"
    refine ⟨net.map enS, .inr rfl, net.reverse, enS, fun r sl S => ∃ (U V : List (List Int)) (y4 : Option Dt), sl = [some (.i m), some (tN net), some (tP U), some (tP V), y4, none, none] ∧ Sz 8 U ∧ Sz 8 V ∧
      r.foldl (fun p s => (least2M m (less2M m p.2 (wkM m s p.1)), p.1)) (U, V) = netUV m net, by rw [List.map_reverse], ⟨oX, oY, none, rfl, sz_oX, sz_oY, rfl⟩, fun s r sl S hs => ?_, fun sl S => ?_⟩
    · rintro ⟨U, V, y4, rfl, zU, zV, e⟩
      refine ⟨_, rfl, ?_⟩
      have hsl := (hn.2 s (List.mem_reverse.mp hs)).2
      have zw := sz_wk (m := m) hsl zU
      refine wp_par ?_
      walk_at "ev"
      refine ⟨_, ⟨m, s, U, rfl, hm, hm2, hsl, zU, rfl⟩, ?_⟩
      walk_at "ev"
      refine ⟨_, ⟨m, V, _, rfl, hm, zV.mono (by decide), zw.mono (by decide), rfl⟩, ?_⟩
      walk_at "ev"
      refine ⟨_, ⟨m, _, rfl, hm, hm2, (sz_less2 (n := 200) (zV.mono (by decide)) (zw.mono (by decide))).mono (by decide), rfl⟩, ?_⟩
      rw [List.foldl_cons] at e
      walk_at "ev"
      exact ⟨_, _, rfl, _, _, _, rfl, (hsm _).mono (by decide), zU, e⟩
    · rintro ⟨U, V, y4, rfl, zU, zV, e⟩
      have e2 : (U, V) = netUV m net := e
      rw [← e2]
      refine wp_seq (wp_asgG (tg_tup (js := [5, 6]) rfl) ?_)
      walk_at "ev"
      refine ⟨_, ⟨m, net, rfl, hm, hm2, hsm, hn, rfl⟩, ?_⟩
      refine ⟨_, ⟨rfl, rfl⟩, ?_⟩
      walk_at "ev"
      exact ⟨_, ⟨m, _, _, U, V, rfl, hm, hm2, zW.1, zW.2, zU, zV, rfl⟩, rfl⟩
end
end Nf

set_option Elab.async false
set_option linter.all false
set_option maxRecDepth 100000
set_option maxHeartbeats 2000000
/-! Rules for the law's own text: powers, list of a range, dict of pairs, rows that change, shown texts. -/
namespace Nf
open PySem PySem.Spec PyProof.Rows L2 RT RZ Mz
section
variable {K : PySem.W.Frag} {S : Sto} {sl : Sl} {P : PD} {N : NX} {R : PD} {te ta tb : TE} {tu : TS} {tr : TA}
theorem rv_pow {a b : Int} (c : CPow a b) (p : P (.i (a ^ b.toNat)) S) : Rv K (rI CPow fun i j => .int (i ^ j.toNat)) (.i a) (.i b) S P := rv_intC (f := fun i j => i ^ j.toNat) c p
theorem reps_rg {H : Hp} : ∀ (n : Nat) (f : Nat → Int), Reps K H ((List.range n).map fun i => Dt.i (f i)) ((List.range n).map fun i => V.int (f i))
  | 0, _ => Reps.nil
  | n + 1, f => by
    rw [List.range_succ_eq_map, List.map_cons, List.map_cons, List.map_map, List.map_map]
    exact Reps.cons rep_i (reps_rg n (f ∘ Nat.succ))
theorem ev_lstRg (h : Ev K ta sl S fun x S1 => Ev K tb sl S1 fun y S2 => ∃ a b : Int, x = .i a ∧ y = .i b ∧ (0 ≤ a ∧ a ≤ 100000 ∧ 0 ≤ b ∧ b ≤ 100000) ∧ ∀ p, S2 p = none → P (.a p) (S2.put p (.l (rgD a 1 (b - a).toNat)))) : Ev K (tLstRg (tRg2 ta tb)) sl S P := fun M σ H hd Q o =>
  h M σ H hd _ fun x S1 M1 v H1 p1 k1 s1 r1 => p1 M1 σ H1 (hd.step k1 s1) _ fun y S2 M2 w H2 p2 k2 s2 r2 => by
    obtain ⟨a, b, rfl, rfl, hb, hp⟩ := p2
    refine ⟨a, b, (r1.mono s2.sub).int_inv, r2.int_inv, RgOk.of_le (by omega) (by omega) (by omega) (by omega), fun p hp0 => ?_⟩
    refine ((o.after s1).after s2).newL (hp p (k2.fresh hp0).2) k2 hp0 ?_
    have := reps_rg (K := K) (H := hid M2 H2) (b - a).toNat fun i => a + (i : Int)
    unfold rgD rgV
    simp only [Int.mul_one]
    exact this
/-! the dict of pairs -/
theorem ev_dnewT (h : ∀ p, S p = none → P (.a p) (S.put p (.d []))) : Ev K tDNewT sl S P := fun M σ H hd Q o p hp => by
  obtain ⟨k2, s2⟩ := hd.stk.new (c := .d []) (o := .dT []) hp (show CelOk K _ _ _ (.d []) from upd_same)
  exact o (.a p) _ _ _ _ (h p (hd.stk.fresh hp).2) k2 s2 rep_a
theorem val_keys : ∀ (ks : List (Int × Int)) (u v : Int), valV (keysT ks) [Sum.inl u, Sum.inl v] = if (u, v) ∈ ks then some (V.bl true) else none
  | [], u, v => rfl
  | q :: ks, u, v => by
    have e : keysT (q :: ks) = ([Sum.inl q.1, Sum.inl q.2], V.bl true) :: keysT ks := rfl
    rw [e]
    by_cases h : q = (u, v)
    · subst h
      rw [valV_pos rfl, if_pos List.mem_cons_self]
    · have h2 : ¬ ([Sum.inl q.1, Sum.inl q.2] : List Key) = [Sum.inl u, Sum.inl v] := fun z => h (by
        injection z with z1 z2
        injection z2 with z2
        injection z1 with z1
        injection z2 with z2
        exact Prod.ext z1 z2)
      rw [valV_neg (p := ([Sum.inl q.1, Sum.inl q.2], V.bl true)) h2, val_keys ks u v]
      have : ((u, v) ∈ q :: ks) ↔ (u, v) ∈ ks := ⟨fun z => (List.mem_cons.mp z).elim (fun z => absurd z.symm h) id, List.mem_cons_of_mem _⟩
      by_cases h3 : (u, v) ∈ ks
      · rw [if_pos h3, if_pos (this.mpr h3)]
      · rw [if_neg h3, if_neg (fun z => h3 (this.mp z))]
theorem put_keys {ks : List (Int × Int)} {u v : Int} (h : (u, v) ∉ ks) : putK (keysT ks) [Sum.inl u, Sum.inl v] (V.bl true) = keysT (ks ++ [(u, v)]) := by
  unfold putK
  rw [if_neg]
  · unfold keysT
    rw [List.map_append]; rfl
  · intro z
    obtain ⟨kv, h1, h2⟩ := List.any_eq_true.mp z
    unfold keysT at h1
    obtain ⟨q, hq, rfl⟩ := List.mem_map.mp h1
    have z := of_decide_eq_true h2
    injection z with z1 z2
    injection z2 with z2
    injection z1 with z1
    injection z2 with z2
    exact h (by rw [show (u, v) = q from Prod.ext z1.symm z2.symm]; exact hq)
theorem ev_dinT {i : Nat} (h : EvA K tr sl S fun ds S1 => ∃ (u v : Int) (p : Addr) (ks : List (Int × Int)), ds = [.i u, .i v] ∧ sl[i]? = some (some (.a p)) ∧ S1 p = some (.d ks) ∧ P (.b (decide ((u, v) ∈ ks))) S1) : Ev K (tDIn (tTup tr) (tVar i)) sl S P := fun M σ H hd Q o =>
  h M σ H hd _ fun ds S1 M1 vs H1 p1 k1 s1 r1 => by
    obtain ⟨u, v, p, ks, rfl, h1, h2, hp⟩ := p1
    obtain ⟨x, y, rfl, q1, q2⟩ := r1.two
    rw [q1.int_inv, q2.int_inv]
    refine ⟨show 2 ≤ sizeLine by decide, fun t ht => ?_⟩
    have hd1 := hd.step k1 s1
    obtain ⟨v0, g1, g2⟩ := hd1.val i _ h1
    have hv := g2.a_inv
    subst hv
    refine ⟨.ref p, g1, p, valV (keysT ks) [Sum.inl u, Sum.inl v], rfl, ?_, ?_⟩
    · have e : H1 p = some (.dT (keysT ks)) := (k1.sto p _ h2).2
      refine DGet.t (k := [Sum.inl u, Sum.inl v]) (by rw [upd_ne (ne_of_none e ht)]; exact e) upd_same
    · rw [val_keys]
      have e2 : (if (u, v) ∈ ks then some (V.bl true) else none).isSome = decide ((u, v) ∈ ks) := by
        by_cases h : (u, v) ∈ ks
        · rw [if_pos h, decide_eq_true h]; rfl
        · rw [if_neg h, decide_eq_false h]; rfl
      rw [e2]
      exact (o.after s1).grow hp k1 ht rep_b
theorem wp_dputT {i : Nat} (h : ∃ p, sl[i]? = some (some (.a p)) ∧ EvA K tr sl S fun ds S1 => ∃ (u v : Int) (ks : List (Int × Int)), ds = [.i u, .i v] ∧ S1 p = some (.d ks) ∧ (u, v) ∉ ks ∧ ks.length ≤ 100000 ∧ N sl (S1.put p (.d (ks ++ [(u, v)])))) : WP K (sDPut (tVar i) (tTup tr) (tC (.bl true))) sl S N R := fun M σ H D hd n _ => by
  obtain ⟨p, hi, h⟩ := h
  obtain ⟨v0, g1, g2⟩ := hd.val i _ hi
  have hv := g2.a_inv
  subst hv
  refine ⟨.ref p, g1, ?_⟩
  refine h M σ H hd _ fun ds S1 M1 vs H1 p1 k1 s1 r1 => ?_
  obtain ⟨u, v, ks, rfl, h2, hn, hl, hN⟩ := p1
  obtain ⟨x, y, rfl, q1, q2⟩ := r1.two
  rw [q1.int_inv, q2.int_inv]
  refine ⟨show 2 ≤ sizeLine by decide, fun t ht => ?_⟩
  have e : H1 p = some (.dT (keysT ks)) := (k1.sto p _ h2).2
  have kt := k1.ext (Ex.new (o := .tup [V.int u, V.int v]) ht)
  have st : Stp S1 M1 H1 S1 M1 (upd H1 t (.tup [V.int u, V.int v])) := Stp.ext (Ex.new ht) k1.dom
  obtain ⟨k3, s3⟩ := kt.write (c := .d (ks ++ [(u, v)])) (o := .dT (keysT (ks ++ [(u, v)]))) h2 (show CelOk K _ _ _ (.d _) from upd_same)
  refine ⟨p, _, rfl, DPut.t (k := [Sum.inl u, Sum.inl v]) (by rw [upd_ne (ne_of_none e ht)]; exact e) upd_same ?_, ?_⟩
  · unfold keysT
    rw [List.length_map]
    exact Nat.lt_of_le_of_lt hl (by decide)
  · rw [put_keys hn]
    exact n _ _ _ _ _ hN (((hd.step k1 s1).step kt st).step k3 s3) ((s1.trans st).trans s3)
/-! rows that change, told as one -/
theorem nem {a b : Addr} {l : List Addr} (h1 : a ∈ l) (h2 : b ∉ l) : a ≠ b := fun z => h2 (by rw [← z]; exact h1)
def RowsAt (S : Sto) : List Addr → List (List Int) → Prop
  | [], [] => True
  | q :: qs, r :: A => S q = some (.l (r.map Dt.i)) ∧ RowsAt S qs A
  | _, _ => False
theorem RowsAt.len {S : Sto} : ∀ {qs : List Addr} {A : List (List Int)}, RowsAt S qs A → qs.length = A.length
  | [], [], _ => rfl
  | _ :: _, _ :: _, h => by rw [List.length_cons, List.length_cons, RowsAt.len h.2]
  | [], _ :: _, h => h.elim
  | _ :: _, [], h => h.elim
theorem RowsAt.keep {S S' : Sto} : ∀ {qs : List Addr} {A : List (List Int)}, RowsAt S qs A → (∀ q ∈ qs, ∀ c, S q = some c → S' q = some c) → RowsAt S' qs A
  | [], [], _, _ => trivial
  | q :: qs, _ :: _, h, k => ⟨k q List.mem_cons_self _ h.1, RowsAt.keep h.2 fun q' hq => k q' (List.mem_cons_of_mem _ hq)⟩
  | [], _ :: _, h, _ => h.elim
  | _ :: _, [], h, _ => h.elim
theorem RowsAt.get {S : Sto} : ∀ {qs : List Addr} {A : List (List Int)} {k : Nat}, RowsAt S qs A → k < A.length → ∃ q, qs[k]? = some q ∧ S q = some (.l ((rowM A k).map Dt.i))
  | [], [], k, _, hk => absurd hk (Nat.not_lt_zero _)
  | q :: qs, r :: A, 0, h, _ => ⟨q, rfl, h.1⟩
  | q :: qs, r :: A, k + 1, h, hk => RowsAt.get (k := k) h.2 (by rw [List.length_cons] at hk; omega)
  | [], _ :: _, _, h, _ => h.elim
  | _ :: _, [], _, h, _ => h.elim
theorem RowsAt.set {S : Sto} {r : List Int} : ∀ {qs : List Addr} {A : List (List Int)} {k : Nat} {q : Addr}, RowsAt S qs A → qs.Nodup → qs[k]? = some q → RowsAt (S.put q (.l (r.map Dt.i))) qs (A.set k r)
  | [], [], k, q, _, _, hk => nomatch hk
  | q0 :: qs, r0 :: A, 0, q, h, hn, hk => by
    cases hk
    refine ⟨put_same, RowsAt.keep h.2 fun q' hq c hc => ?_⟩
    rw [put_ne (nem hq (List.nodup_cons.mp hn).1)]
    exact hc
  | q0 :: qs, r0 :: A, k + 1, q, h, hn, hk => by
    have hq : q ∈ qs := List.mem_of_getElem? hk
    refine ⟨by rw [put_ne (nem hq (List.nodup_cons.mp hn).1).symm]; exact h.1, RowsAt.set h.2 (List.nodup_cons.mp hn).2 hk⟩
  | [], _ :: _, _, _, h, _, _ => h.elim
  | _ :: _, [], _, _, h, _, _ => h.elim
theorem RowsAt.snoc {S : Sto} {q : Addr} {r : List Int} (hq : S q = some (.l (r.map Dt.i))) : ∀ {qs : List Addr} {A : List (List Int)}, RowsAt S qs A → RowsAt S (qs ++ [q]) (A ++ [r])
  | [], [], _ => ⟨hq, trivial⟩
  | _ :: _, _ :: _, h => ⟨h.1, RowsAt.snoc hq h.2⟩
  | [], _ :: _, h => h.elim
  | _ :: _, [], h => h.elim
def delL (S : Sto) : List Addr → Sto
  | [] => S
  | q :: qs => delL (S.del q) qs
theorem delL_ne {S : Sto} : ∀ {qs : List Addr} {p : Addr}, p ∉ qs → delL S qs p = S p
  | [], _, _ => rfl
  | q :: qs, p, h => by
    show delL (S.del q) qs p = _
    rw [delL_ne (fun z => h (List.mem_cons_of_mem _ z)), del_ne (nem (l := q :: qs) List.mem_cons_self h).symm]
theorem freezeL {H : Hp} : ∀ {qs : List Addr} {M : List Addr} {S : Sto}, Stk K M S H → qs.Nodup → (∀ q ∈ qs, ∃ c, S q = some c) → ∃ M', Stk K M' (delL S qs) H ∧ Stp S M H (delL S qs) M' H ∧ (∀ a, a ∈ M' → a ∈ M ∧ a ∉ qs)
  | [], M, S, k, _, _ => ⟨M, k, Stp.refl _ _ _, fun a h => ⟨h, fun z => nomatch z⟩⟩
  | q :: qs, M, S, k, hn, hc => by
    obtain ⟨c, hc0⟩ := hc q List.mem_cons_self
    obtain ⟨k1, x1⟩ := k.freeze (p := q)
    have s1 : Stp S M H (S.del q) (drp M q) H := stp_freeze fun z _ => by rw [z] at hc0; cases hc0
    obtain ⟨M', k2, s2, h2⟩ := freezeL k1 (List.nodup_cons.mp hn).2 fun q' hq => by
      obtain ⟨c', hc'⟩ := hc q' (List.mem_cons_of_mem _ hq)
      exact ⟨c', by rw [del_ne (nem hq (List.nodup_cons.mp hn).1)]; exact hc'⟩
    refine ⟨M', k2, s1.trans s2, fun a ha => ⟨(mem_drp.mp (h2 a ha).1).1, fun z => ?_⟩⟩
    rcases List.mem_cons.mp z with rfl | z
    · exact (mem_drp.mp (h2 a ha).1).2 rfl
    · exact (h2 a ha).2 z
theorem rows_reps {M M' : List Addr} {H : Hp} (k : Stk K M S H) (s : Ex (hid M H) (hid M' H)) : ∀ {qs : List Addr} {A : List (List Int)} {vs : List V}, RowsAt S qs A → (∀ q ∈ qs, q ∉ M') → Reps K (hid M H) (qs.map Dt.a) vs → Reps K (hid M' H) (A.map lI) vs
  | [], [], vs, _, _, r => by rw [r.nil_inv]; exact Reps.nil
  | q :: qs, row :: A, vs, h, hm, r => by
    rw [List.map_cons] at r
    obtain ⟨v, vr, rfl, h1, h2⟩ := r.cons_inv
    have hv := h1.a_inv
    subst hv
    obtain ⟨_, ws, e1, e2⟩ := k.sto q _ h.1
    exact Reps.cons (rep_l (.inl (.inl (by rw [hid_of (hm q List.mem_cons_self)]; exact e1))) (e2.mono s)) (rows_reps k s h.2 (fun q' hq => hm q' (List.mem_cons_of_mem _ hq)) h2)
  | [], _ :: _, _, h, _, _ => h.elim
  | _ :: _, [], _, h, _, _ => h.elim
theorem wp_freeze2 {i : Nat} {p : Addr} {qs : List Addr} {A : List (List Int)} (h1 : sl[i]? = some (some (.a p))) (h2 : S p = some (.l (qs.map Dt.a))) (h3 : RowsAt S qs A) (h4 : (p :: qs).Nodup) (h : WP K tu (setE sl i (lL A)) (delL S (p :: qs)) N R) : WP K tu sl S N R := fun M σ H D hd n o => by
  have hall : ∀ {qs : List Addr} {A : List (List Int)}, RowsAt S qs A → ∀ q ∈ qs, ∃ c, S q = some c := fun {qs A} hr => by
    induction qs generalizing A with
    | nil => intro q hq; cases hq
    | cons q0 qs ih =>
      cases A with
      | nil => exact hr.elim
      | cons r A =>
        intro q hq
        rcases List.mem_cons.mp hq with rfl | hq
        · exact ⟨_, hr.1⟩
        · exact ih hr.2 q hq
  obtain ⟨M', k1, s1, hM⟩ := freezeL hd.stk h4 fun q hq => by
    rcases List.mem_cons.mp hq with rfl | hq
    · exact ⟨_, h2⟩
    · exact hall h3 q hq
  obtain ⟨_, vs, e1, e2⟩ := hd.stk.sto p _ h2
  obtain ⟨v, g1, g2⟩ := hd.val i _ h1
  have hv := g2.a_inv
  subst hv
  have r : Rep K (hid M' H) (lL A) (.ref p) := rep_l (.inl (.inl (by rw [hid_of (fun z => (hM p z).2 List.mem_cons_self)]; exact e1)))
    (rows_reps hd.stk s1.sub h3 (fun q hq z => (hM q z).2 (List.mem_cons_of_mem _ hq)) e2)
  have hd1 : Holds K M' (delL S (p :: qs)) (setE sl i (lL A)) σ H := by
    have q := (hd.step k1 s1).set (i := i) r
    have e : σ.set i (some (V.ref p)) = σ := by
      apply List.ext_getElem?
      intro j
      by_cases ij : i = j
      · subst ij
        rw [List.getElem?_set_self (List.getElem?_eq_some_iff.mp g1).1, g1]
      · rw [List.getElem?_set_ne ij]
    rw [e] at q
    exact q
  exact h M' σ H D hd1 (fun sl' S' M' σ' H' q1 q2 q3 => n sl' S' M' σ' H' q1 q2 (s1.trans q3)) (o.after s1)
end
end Nf

set_option Elab.async false
set_option linter.all false
set_option maxRecDepth 100000
set_option maxHeartbeats 2000000
/-! The law's own def is entered once, by the caller: there no text is being shown yet. -/
namespace Nf
open PySem PySem.Spec PyProof.Rows L2
section
variable {P : Program} {w : World} {K : PySem.W.Frag} {mg : Str → Option Value} {base : Heap}
/-- a def of one name, called by the caller itself -/
theorem call_once {x y : Str} {st : Stmt} {f : Addr} {fd : FuncData} {N : List Str} {k : Nat} {s : Shared} {H : Hp} {u : Value} {v : V} {Q : VK} {E : XK}
    (F : Fun K x x st f fd) (Sc : FnScope N [y] (defScope st)) (hr : Room (k + 1) callerA) (env : Env0 P w K mg base callerA [] s H) (bind : BindsTo s fd ⟨[u], []⟩ [(y, u)]) (ru : RelV v u)
    (body : ∀ cdv, Room k (callerA.deeper (envOfC x (defScope st) s.heap.objs.size f cdv)) → ∃ t, PSs (cxOf CX0 P w K mg base N x (defScope st) f cdv callerA [] s H E).nox (defBody st) t ∧ t { nx := fun _ H' => Q .non H', rt := Q } (start N [v]) H) :
    codeAny (model P w) callerA (.call (.ref f) ⟨[u], []⟩) (CR CX0 [] P w H s Q E) s := by
  obtain ⟨oc, od, kV, doc, pm, an, cdv, ct, osl, rfl, lk, code⟩ := F.ex
  have keep : ∀ b o, base.get? b = some o → s.heap.get? b = some o := fun b o e => (env.bs b o e).1
  have inK := env.mod.kin.keeps keep
  have room := env.mod.nolimit.keeps keep
  obtain ⟨t, run, goal⟩ := body cdv (hr.deeper _)
  refine codeAny_call_function hr.depth (inK _ _ lk) rfl Sc.co Sc.gen rfl (PySem.W.codeRec_of inK code) (bind _ _ _ _ ?_)
  refine wpAny_newFunctionEnv_cells Sc.kind (fun z hz => ?_) fun e2 he2 s1 up => ?_
  · rw [List.mem_singleton.mp hz]
    exact (Sc.par y List.mem_cons_self).elim .inl fun q => .inr ⟨q, PySem.W.cellsFrom_some _ _ _ (.inl q)⟩
  · subst he2
    refine ⟨room.keeps up.toInCall.keep, codeAny_func ?_⟩
    have at0 := inv_start (CX := CX0) (E := E) (us := [u]) (vs := [v]) Sc hr.hd env rfl (.cons ru .nil) up
    have done : ∀ {σ' : L2.St} {H' : Hp} {s' : Shared} {a : V} {b : Value}, Inv (cxOf CX0 P w K mg base N x (defScope st) f cdv callerA [] s H E) [] σ' H' s' → RelV a b → Q a H' → CE [] P w H s Q b s' :=
      fun J ra q => ⟨_, _, J.os, J.bare, J.base, J.hok, ra, q⟩
    refine wpAny_mono (run.nox.run [] s1 (start N [v]) H _ at0 goal) (fun flow s' end_ => ?_) fun _ _ z => z
    cases flow with
    | ret b => obtain ⟨a, σ', H', J, ra, q⟩ := end_; exact done J ra q
    | next => obtain ⟨σ', H', J, q⟩ := end_; exact done (a := V.non) (b := Value.none) J rfl q
    | brk => obtain ⟨_, _, _, q⟩ := end_; exact q.elim
    | cont => obtain ⟨_, _, _, q⟩ := end_; exact q.elim
/-- the law's call, from its def's promise at the caller -/
theorem law_once {mb : Str → Option Value} {fa a : Addr} {s1 : Shared} {vs : List Value} {ns : List Int}
    (inK : K.In s1.heap) (nsG : s1.heap.Ns mainGlobals mg) (nsB : s1.heap.Ns builtinsNs mb) (boot : ∀ z : Str, z ≠ "__name__" → mb z = bootBuiltins z) (lim : s1.heap.NoLimit) (gens : s1.gens = #[])
    (ha : s1.heap.get? a = some { cls := .type "list", data := .seq vs.toArray }) (nums : IntsAre vs ns) (len : ns.length ≤ sizeLine)
    (F : ∀ (base : Heap) (H : Hp), Env0 P w K mg base callerA [] s1 H → SqL K H a (ns.map V.int) → codeAny (model P w) callerA (.call (.ref fa) ⟨[.ref a], []⟩) (CR CX0 [] P w H s1 (fun v _ => v = .bl true) fun _ _ _ => False) s1) :
    codeAny (model P w) callerA (.call (.ref fa) ⟨[.ref a], []⟩) (fun r s' => r = .ok (.ret (.bool true)) ∧ OldK s1.heap s'.heap ∧ s'.os = s1.os ∧ AllBare s'.gens) s1 := by
  have vals := vals_ints nums
  have go : ∀ H : Hp, (∀ b, H b = none ∨ b = a ∧ K.lookup a = none ∧ ∃ o xs, H b = some (.frz o (.lst xs))) → SqL K H a (ns.map V.int) → HOk P w H s1.heap →
      codeAny (model P w) callerA (.call (.ref fa) ⟨[.ref a], []⟩) (fun r s' => r = .ok (.ret (.bool true)) ∧ OldK s1.heap s'.heap ∧ s'.os = s1.os ∧ AllBare s'.gens) s1 := fun H only seq ok => by
    have free : ∀ {b : Addr} {o : Obj}, s1.heap.get? b = some o → (b = a → K.lookup a = none → False) → H b = none := fun {b o} e no => (only b).elim id fun z => (no z.1 z.2.1).elim
    have ns : ∀ {b : Addr} {m : Str → Option Value}, s1.heap.Ns b m → (hidT s1.heap H).Ns b m := fun {b m} hn => by
      obtain ⟨o, es, ep, e, d, r⟩ := hn
      refine ⟨o, es, ep, hidT_get e (free e fun z _ => ?_), d, r⟩
      subst z
      rw [ha] at e
      cases e
      exact absurd d (by intro z; cases z)
    have kin : K.In (hidT s1.heap H) := fun b o e => hidT_get (inK b o e) (free (inK b o e) fun z n => by
      subst z
      rw [n] at e
      cases e)
    obtain ⟨mc, c1, c2⟩ := lim
    have env : Env0 P w K mg (hidT s1.heap H) callerA [] s1 H :=
      { frames := rfl, mod := ⟨kin, ns nsG, ⟨mb, ns nsB, boot⟩, ⟨mc, ns c1, c2⟩⟩, bs := fun b o e => of_hidT e, bsz := Nat.le_of_eq (hidT_size _ _), funs := trivial,
        frf := fun b hb => absurd (show b ∈ ([] : List Addr) from hb) (by simp), hok := ok, bare := .of_eq gens }
    refine codeAny_mono (F _ H env seq) fun r s' h => ?_
    rcases r with e | (_ | _ | _ | u)
    · exact absurd h id
    · exact absurd h id
    · exact absurd h id
    · exact absurd h id
    · obtain ⟨v, H', os, bare, un, ok', rel, rfl⟩ := h
      have eu : u = Value.bool true := rel
      subst eu
      refine ⟨rfl, OldK.of_keep fun b o e => ?_, os, bare⟩
      rcases only b with z | ⟨_, _, o2, xs, z⟩
      · exact un.keep b o e z (fun q => absurd (show b ∈ ([] : List Addr) from q) (by simp)) (by simp)
      · have before := (ok b _ z).1
        have after := (ok' b _ (un.frzs b o2 _ z)).1
        rw [e] at before
        cases before
        exact after
  cases known : K.lookup a with
  | some o =>
    have e := inK a o known
    rw [ha] at e
    cases e
    exact go (fun _ => none) (fun _ => .inl rfl) (.inr ⟨_, vs.toArray, _, known, rfl, rfl, rfl, by rw [List.size_toArray, nums.length]; exact len, by simpa using vals⟩) fun b u z => by cases z
  | none =>
    refine go (fun b => if b = a then some (.frz { cls := .type "list", data := .seq vs.toArray } (.lst (ns.map V.int))) else none) (fun b => ?_) (.inl (.inr ⟨{ cls := .type "list", data := .seq vs.toArray }, if_pos rfl⟩)) fun b u z => ?_
    · by_cases q : b = a
      · exact .inr ⟨q, known, _, _, if_pos q⟩
      · exact .inl (if_neg q)
    · by_cases q : b = a
      · subst q
        have z2 := (if_pos rfl).symm.trans z
        cases z2
        exact ⟨ha, by rw [List.length_map]; exact len, vs, _, vals, ha⟩
      · have z2 := (if_neg q).symm.trans z
        cases z2
/-! ### what repr shows -/
def rRepr (K : PySem.W.Frag) : List V → Hp → VK → Prop := fun xs H Q => ∃ (a : Addr) (d : PyData), xs = [.ref a] ∧ Dp K H (.ref a) d ∧ d.showable = true ∧ d.hasDict = false ∧ d.depth ≤ 60 ∧ d.shown.length ≤ sizeLine ∧ Q (.str d.shown) H
theorem call_reprD {X : Cx} (K : PySem.W.Frag) (hg : X.A.guards = some []) (hu : X.A.units + 64 < cLine) (h : X.K = K := by rfl) : CallR X (.builtin "repr") (rRepr K) := by
  subst h
  intro pins s σ H xs us Q I r q
  obtain ⟨a, d, rfl, dp, h1, h2, h3, h4, q⟩ := q
  obtain ⟨u, rfl, ru⟩ := vals1 r
  cases ru
  obtain ⟨as, rd⟩ := Dp.reads I d (.ref a) (.ref a) dp rfl
  exact repr_of_reads' rd h1 (PyData.noDict_hsm h2) hg (by omega) (fun _ _ e => e) (fun h' u tk hk => ⟨.str d.shown, H, I.kept (t' := tk) hk, ⟨u, rfl⟩, q⟩) h4
end
end Nf

set_option Elab.async false
set_option linter.all false
set_option maxRecDepth 100000
set_option maxHeartbeats 4000000
namespace Nf
open PySem PySem.Spec PyProof.Rows L2 RT RZ Mz
section
variable {P : Program} {w : World} {K : PySem.W.Frag} {mg : Str → Option Value} {base : Heap}
def TapeAt (S : Sto) (p : Addr) (n : Nat) : Prop := ∃ (cells : List Int) (spot : Nat) (left : Int), S p = some (.l [lI cells, .i (spot : Int), .i left]) ∧ spot ≤ n
/-- but for what stands at p, all stays -/
def Frm (S S' : Sto) (p : Addr) : Prop := ∀ q, q ≠ p → ∀ c, S q = some c → S' q = some c
theorem Frm.put {S S' : Sto} {p : Addr} {c : Cel} (h : Frm S S' p) : Frm S (S'.put p c) p := fun q hq d hd => by rw [put_ne hq]; exact h q hq d hd
theorem Frm.refl {S : Sto} {p : Addr} : Frm S S p := fun _ _ _ h => h
theorem Frm.trans {S S' S2 : Sto} {p : Addr} (h : Frm S S' p) (h2 : Frm S' S2 p) : Frm S S2 p := fun q hq c hc => h2 q hq c (h q hq c hc)
def R_law_tape (ds : List Dt) (S : Sto) (Pd : Dt → Sto → Prop) : Prop := ∃ xs : List Int, ds = [lI xs] ∧ ∀ p, S p = none → ∀ S', TapeAt S' p 0 → Frm S S' p → Pd (.a p) S'
theorem ok_law_tape (T : Txt K mg) : FnOk P w K mg base CX0 1 T.d_law_tape.f T.d_law_tape.fd ["_law_script"] (spS K R_law_tape) := by
  refine okS T.d_law_tape.F sc_law_tape (fun ds S Pd h => ?_) (fun cdv A outer s H E hr => ⟨_, (pss_one (ps_ret (pe_lst (pa_cons (pe_callTy (k_list K) (by rfl) T.b_list (by decide +kernel) (pa_cons (pe_slice (k_slL K) (pv 0) po_none (po_some pe_int)) pa_nil)) (pa_cons pe_int (pa_cons pe_int pa_nil)))))), fun ds S Pd h => ?_⟩)
  · obtain ⟨xs, rfl, _⟩ := h; rfl
  · obtain ⟨xs, rfl, h⟩ := h
    walk_at "ev"
    refine ev_lstA ?_
    walk_at "ev"
    refine ev_slL ?_
    walk_at "ev"
    refine eo_none (eo_some ?_)
    walk_at "ev"
    refine ⟨_, rfl, _, rfl, ?_⟩
    walk_at "ev"
    refine rk_list sv_l (.inl ?_)
    walk_at "ev"
    intro p hp
    unfold cutD
    rw [← List.map_drop, ← List.map_take]
    exact h p hp _ ⟨_, 0, 0, put_same, Nat.le_refl _⟩ Frm.refl.put
def R_law_draw (ds : List Dt) (S : Sto) (Pd : Dt → Sto → Prop) : Prop := ∃ (p : Addr) (many : Int) (n : Nat), ds = [.a p, .i many] ∧ 0 < many ∧ many ≤ 1000000 ∧ TapeAt S p n ∧ n ≤ 100000 ∧ ∀ r S', 0 ≤ r → r < many → TapeAt S' p (n + 1) → Frm S S' p → Pd (.i r) S'
theorem ok_law_draw (T : Txt K mg) : FnOk P w K mg base CX0 1 T.d_law_draw.f T.d_law_draw.fd ["_law_tape_here", "_law_many"] (spS K R_law_draw) := by
  refine okS T.d_law_draw.F sc_law_draw (fun ds S Pd h => ?_) (fun cdv A outer s H E hr => ⟨_, (pss_cons (ps_if (pt_cmpR op_gt (pe_ix (k_ix K) (pv 0) pe_int (fun _ _ => rfl)) pe_int (nomark _)) (pss_cons (ps_set (i := 2) sc_law_draw.nd rfl (.inl rfl) (pe_op op_mod (pe_ix (k_ix K) (pv 0) pe_int (fun _ _ => rfl)) (pv 1)))
      (pss_cons (ps_asg (pe_op op_fdiv (pe_ix (k_ix K) (pv 0) pe_int (fun _ _ => rfl)) (pv 1)) (pg_sub (pv 0) pe_int set_list))
      (pss_one (ps_ret (pv 2))))) pss_nil)
      (pss_cons (ps_set (i := 3) sc_law_draw.nd rfl (.inl rfl) (pe_ix (k_ix K) (pv 0) pe_int (fun _ _ => rfl)))
      (pss_cons (ps_asg (pe_op (k_add K) (pv 3) pe_int) (pg_sub (pv 0) pe_int set_list))
      (pss_cons (ps_set (i := 4) sc_law_draw.nd rfl (.inl rfl) (pe_op op_mulA (pv 3) (pv 3)))
      (pss_cons (ps_if (pt_cmpR (k_ne K hr.units) (pe_ix (k_ix K) (pv 0) pe_int (fun _ _ => rfl)) (pe_lst pa_nil) (nomark _)) (pss_one (ps_set (i := 4) sc_law_draw.nd rfl (.inl rfl) (pe_ix (k_ix K) (pe_ix (k_ix K) (pv 0) pe_int (fun _ _ => rfl)) (pe_op op_mod (pv 3) (pe_callB (k_len K) (by rfl) T.b_len (by decide +kernel) (pa_cons (pe_ix (k_ix K) (pv 0) pe_int (fun _ _ => rfl)) pa_nil))) (fun _ _ => rfl)))) pss_nil)
      (pss_cons (ps_if (PW.pt (pw_and (pt_cmpR op_ge (pv 4) (pe_op op_pow pe_int pe_int) (nomark _)) (pw_and1 (pt_cmpR op_lt (pv 3) (pe_callB (k_len K) (by rfl) T.b_len (by decide +kernel) (pa_cons (pe_ix (k_ix K) (pv 0) pe_int (fun _ _ => rfl)) pa_nil)) (nomark _))))) (pss_cons (ps_asg (pe_op op_fdiv (pv 4) (pv 1)) (pg_sub (pv 0) pe_int set_list))
      (pss_one (ps_ret (pe_op op_mod (pv 4) (pv 1))))) pss_nil)
      (pss_cons (ps_set (i := 5) sc_law_draw.nd rfl (.inl rfl) (pe_op op_mod (pe_op op_mulA (pe_op (k_add K) (pe_op (k_add K) (pe_op op_mulA (pe_op op_mod (pv 4) pe_int) pe_int) (pe_op op_mulA pe_int (pv 3))) pe_int) pe_int) pe_int))
      (pss_cons (ps_set (i := 5) sc_law_draw.nd rfl (.inl rfl) (pe_op op_mod (pe_op op_mulA (pe_op op_mod (pe_op (k_add K) (pe_op op_mulA (pv 5) pe_int) (pe_op op_mulA (pv 3) (pv 3))) pe_int) pe_int) pe_int))
      (pss_one (ps_ret (pe_op op_mod (pe_op op_fdiv (pv 5) pe_int) (pv 1)))))))))))), fun ds S Pd h => ?_⟩)
  · obtain ⟨p, many, n, rfl, _⟩ := h; rfl
  · obtain ⟨p, many, n, rfl, hm, hm2, ⟨cells, spot, left, hS, hsp⟩, hn, h⟩ := h
    walk_at "ev"
    refine rv_ix (sv_a hS) (atI_nn (j := 2) rfl rfl) ?_
    walk_at "ev"
    refine dd2 (fun hl => ?_) (fun hl => ?_)
    · walk_at "ev"
      refine rv_ix (sv_a hS) (atI_nn (j := 2) rfl rfl) ?_
      walk_at "ev"
      refine wp_setL ?_
      walk_at "ev"
      refine rv_ix (sv_a hS) (atI_nn (j := 2) rfl rfl) ?_
      walk_at "ev"
      refine rv_fdiv ⟨by omega, by omega⟩ ?_
      walk_at "ev"
      refine ⟨p, _, _, 2, rfl, rfl, hS, ixN_nn rfl (show _ < 3 by decide), ?_⟩
      walk_at "ev"
      exact h _ _ (Int.emod_nonneg _ (by omega)) (Int.emod_lt_of_pos _ hm) ⟨cells, spot, _, put_same, by omega⟩ Frm.refl.put
    refine wp_next ?_
    walk_at "ev"
    refine rv_ix (sv_a hS) (atI_nn (j := 1) rfl rfl) ?_
    refine wp_seq (wp_setL ?_)
    walk_at "ev"
    refine ⟨p, _, _, 1, rfl, rfl, hS, ixN_nn rfl (show _ < 3 by decide), ?_⟩
    generalize hS1 : S.put p (Cel.l ([lI cells, Dt.i (spot : Int), Dt.i left].set 1 (Dt.i ((spot : Int) + 1)))) = S1
    have e1 : S1 p = some (.l [lI cells, .i ((spot + 1 : Nat) : Int), .i left]) := by rw [← hS1, put_same]; rfl
    have f1 : Frm S S1 p := by rw [← hS1]; exact Frm.refl.put
    walk_at "ev"
    refine rv_mulS (.inl ⟨by omega, by omega⟩) ?_
    refine wp_seq (WP.mono (N' := fun sl' S' => ∃ cell : Int, sl' = [some (.a p), some (.i many), none, some (.i (spot : Int)), some (.i cell), none] ∧ S' = S1) (R' := fun _ _ => False) ?_ ?_ fun _ _ z => z.elim)
    · walk_at "ev"
      refine rv_ix (sv_a e1) (atI_nn (j := 0) rfl rfl) ?_
      refine ev_lst ?_
      walk_at "ev"
      refine rv_nel (n := 0) lv_l pls_i (by unfold Pls; trivial) (by decide) (fun e => ?_) (fun e => ?_)
      · walk_at "ev"
        exact wp_next ⟨_, rfl, rfl⟩
      · walk_at "ev"
        refine rv_ix (sv_a e1) (atI_nn (j := 0) rfl rfl) ?_
        walk_at "ev"
        refine rv_ix (sv_a e1) (atI_nn (j := 0) rfl rfl) ?_
        have hl : 0 < cells.length := by
          cases cells with
          | nil => exact absurd rfl e
          | cons _ _ => simp
        walk_at "ev"
        refine rv_mod (by rw [List.length_map]; omega) ?_
        have b1 := Int.emod_nonneg (spot : Int) (show ((cells.map Dt.i).length : Int) ≠ 0 by rw [List.length_map]; omega)
        have b2 := Int.emod_lt_of_pos (spot : Int) (show 0 < ((cells.map Dt.i).length : Int) by rw [List.length_map]; omega)
        have b3 : ((spot : Int) % ((cells.map Dt.i).length : Int)).toNat < cells.length := by rw [List.length_map] at b2 ⊢; omega
        refine rv_ix sv_l (atI_nn (j := ((spot : Int) % ((cells.map Dt.i).length : Int)).toNat) (by omega) (co_at b3)) ?_
        exact ⟨_, rfl, rfl⟩
    rintro sl' S2 ⟨cell, rfl, rfl⟩
    refine wp_seq (WP.mono (N' := fun sl' S' => sl' = [some (.a p), some (.i many), none, some (.i (spot : Int)), some (.i cell), none] ∧ S' = S2) (R' := Pd) ?_ ?_ fun _ _ z => z)
    · walk_at "ev"
      refine rv_pow ⟨by decide, by decide, by decide⟩ ?_
      walk_at "ev"
      refine dd2 (fun hc => ?_) (fun hc => by (try walk_at "ev"); exact wp_next ⟨rfl, rfl⟩)
      walk_at "ev"
      refine rv_ix (sv_a e1) (atI_nn (j := 0) rfl rfl) ?_
      walk_at "ev"
      refine dd2 (fun hc => ?_) (fun hc => by (try walk_at "ev"); exact wp_next ⟨rfl, rfl⟩)
      refine wp_seq (wp_setL ?_)
      walk_at "ev"
      refine rv_fdiv ⟨by omega, by omega⟩ ?_
      walk_at "ev"
      refine ⟨p, _, _, 2, rfl, rfl, e1, ixN_nn rfl (show _ < 3 by decide), ?_⟩
      walk_at "ev"
      exact h _ _ (Int.emod_nonneg _ (by omega)) (Int.emod_lt_of_pos _ hm) ⟨cells, spot + 1, _, put_same, by omega⟩ f1.put
    rintro sl' S' ⟨rfl, rfl⟩
    walk_at "ev"
    refine rv_mulS (.inr ⟨by decide, by decide⟩) ?_
    walk_at "ev"
    refine rv_mulS (.inl ⟨by decide, by decide⟩) ?_
    walk_at "ev"
    refine rv_mulS (.inr ⟨by decide, by decide⟩) ?_
    walk_at "ev"
    refine rv_mulS (.inr ⟨by decide, by decide⟩) ?_
    walk_at "ev"
    refine rv_mulS (.inl ⟨by omega, by omega⟩) ?_
    walk_at "ev"
    refine rv_mulS (.inr ⟨by decide, by decide⟩) ?_
    walk_at "ev"
    refine rv_fdiv ⟨by decide, by decide⟩ ?_
    walk_at "ev"
    exact h _ _ (Int.emod_nonneg _ (by omega)) (Int.emod_lt_of_pos _ hm) ⟨cells, spot + 1, _, e1, by omega⟩ f1
def R_law_trim (ds : List Dt) (r : Dt) : Prop := ∃ (m : Int) (A : List (List Int)), ds = [.i m, lL A] ∧ 0 < m ∧ Sz 90000 A ∧ r = tP (pol2 m A)
theorem ok_law_trim (T : Txt K mg) : FnOk P w K mg base CX0 1 T.d_law_trim.f T.d_law_trim.fd ["_law_m", "_law_rows"] (spP K R_law_trim) := by
  refine okP T.d_law_trim.F sc_law_trim (fun ds r h => ?_) (fun cdv A outer s H E hr => ⟨_, (pss_cons (ps_set (i := 2) sc_law_trim.nd rfl (.inl rfl) (pe_lst pa_nil))
      (pss_cons (ps_for PassesOwn.never rfl (k_seq K (pv 1)) (pg_name (i := 3) sc_law_trim.nd rfl (.inl rfl)) (pss_cons (ps_setLc (i := 4) (own := [("_law_one", 5)]) rfl sc_law_trim.nd rfl rfl (sw_true rfl rfl rfl (by decide +kernel)) (k_seq K (pv 3)) (blkOk_by (by kernel_rfl)) (fun _ _ _ _ _ => (pg_name (i := 5) sc_law_trim.nd rfl (.inl rfl))) (fun _ _ _ _ _ => pts_nil) (fun _ _ _ _ _ => (pe_op op_mod (pv 5) (pv 0))))
      (pss_cons (ps_while PassesOwn.never (PW.pt (pw_and (pt_cmpR (k_ne K hr.units) (pv 4) (pe_lst pa_nil) (nomark _)) (pw_and1 (pt_cmpR (k_eq K hr.units) (pe_ix (k_ix K) (pv 4) (pe_un un_neg pe_int) (fun _ _ => rfl)) pe_int (nomark _))))) (pss_one (ps_expr (k_pop K (pv 4)))))
      (pss_one (ps_expr (k_append K (pv 2) (pa_cons (pe_callTy (k_tuple K) (by rfl) T.b_tuple (by decide +kernel) (pa_cons (pv 4) pa_nil)) pa_nil)))))))
      (pss_cons (ps_while PassesOwn.never (PW.pt (pw_and (pt_cmpR (k_ne K hr.units) (pv 2) (pe_lst pa_nil) (nomark _)) (pw_and1 (pt_cmpR (k_eq K hr.units) (pe_ix (k_ix K) (pv 2) (pe_un un_neg pe_int) (fun _ _ => rfl)) (pe_tup pa_nil) (nomark _))))) (pss_one (ps_expr (k_pop K (pv 2)))))
      (pss_one (ps_ret (pe_callTy (k_tuple K) (by rfl) T.b_tuple (by decide +kernel) (pa_cons (pv 2) pa_nil))))))), fun ds r h => ?_⟩)
  · obtain ⟨m, A, rfl, _⟩ := h; rfl
  · obtain ⟨m, A, rfl, hm, hA, rfl⟩ := h
    have hA1 := hA.1
    walk_at "ev"
    refine ev_lstA ?_
    walk_at "ev"
    intro p hp
    refine wp_seq (wp_forM (α := List Int) tg_name (ei_seq ?_))
    walk_at "ev"
    refine ⟨A.map lI, .inr rfl, A, lI, fun r sl S => ∃ (dn : List (List Int)) (y3 y4 : Option Dt), sl = [some (.i m), some (lL A), some (.a p), y3, y4, none] ∧ S p = some (.l ((dn.map (pol m)).map tI)) ∧ dn ++ r = A, rfl, ⟨[], none, none, rfl, put_same, rfl⟩, fun row r sl S hrow => ?_, fun sl S => ?_⟩
    · rintro ⟨dn, y3, y4, rfl, hS, e⟩
      refine ⟨_, rfl, ?_⟩
      have hrl := hA.2 row hrow
      have hdl : dn.length + (r.length + 1) = A.length := by rw [← e, List.length_append, List.length_cons]
      refine wp_seq (wp_asg (ev_lc (α := Int) tg_name (by simp) (ei_seq ?_)))
      walk_at "ev"
      refine ⟨row.map Dt.i, .inr rfl, row, Dt.i, fun x => .i (x % m), rfl, by omega, fun x hx => ⟨_, rfl, ?_⟩, .inr fun q hq => ?_⟩
      · walk_at "ev"
        exact ⟨rfl, rfl⟩
      have hpq : p ≠ q := fun z => by subst z; rw [hS] at hq; cases hq
      refine wp_seq (wp_while (fun k sl S => ∃ ys : List Int, sl = [some (.i m), some (lL A), some (.a p), some (lI row), some (.a q), none] ∧ S p = some (.l ((dn.map (pol m)).map tI)) ∧ S q = some (.l (ys.map Dt.i)) ∧ ys.length = k ∧ trm isZ ys = pol m row) ⟨_, row.map (· % m), rfl, put_keep hS hq, by rw [put_same, List.map_map]; rfl, rfl, rfl⟩ ?_)
      rintro k sl S ⟨ys, rfl, hS, hq2, rfl, ht⟩
      walk_at "ev"
      refine ev_lst ?_
      walk_at "ev"
      refine rv_nel (n := 0) (lv_a hq2) pls_i (by unfold Pls; trivial) (by decide) (fun h => ?_) (fun h => ?_)
      · have hy : ys = [] := List.map_eq_nil_iff.mp h
        subst hy
        walk_at "ev"
        refine ev_append ?_
        walk_at "ev"
        refine ⟨p, _, rfl, hS, ?_⟩
        walk_at "ev"
        refine rk_tuple (sv_a hq2) ?_
        refine ⟨hS, by rw [List.length_map, List.length_map]; omega, ?_⟩
        refine ⟨dn ++ [row], _, _, rfl, ?_, by rw [List.append_assoc]; exact e⟩
        rw [put_same, map_snoc, map_snoc, ← ht]; rfl
      · have hne : ys ≠ [] := fun z => h (by rw [z]; rfl)
        obtain ⟨zs, x, rfl⟩ := snoc_of hne
        walk_at "ev"
        refine rv_ix (sv_a hq2) atI_last ?_
        walk_at "ev"
        refine dd2 (fun h2 => ?_) (fun h2 => ?_)
        · subst h2
          walk_at "ev"
          refine ev_pop ?_
          walk_at "ev"
          rw [map_snoc] at hq2
          refine ⟨q, _, _, rfl, hq2, ?_⟩
          refine ⟨zs.length, by simp, zs, rfl, by rw [put_ne hpq]; exact hS, put_same, rfl, ?_⟩
          rw [← ht, trm_snoc]; rfl
        · walk_at "ev"
          refine ev_append ?_
          walk_at "ev"
          refine ⟨p, _, rfl, hS, ?_⟩
          walk_at "ev"
          refine rk_tuple (sv_a hq2) ?_
          refine ⟨hS, by rw [List.length_map, List.length_map]; omega, ?_⟩
          refine ⟨dn ++ [row], _, _, rfl, ?_, by rw [List.append_assoc]; exact e⟩
          rw [put_same, map_snoc (l := dn), map_snoc (l := dn.map (pol m)), ← ht, trm_snoc, if_neg (by unfold isZ; simpa using h2)]; rfl
    · rintro ⟨dn, y3, y4, rfl, hS, e⟩
      rw [List.append_nil] at e
      subst e
      refine wp_seq (wp_while (fun k sl S => ∃ ys : List (List Int), sl = [some (.i m), some (lL dn), some (.a p), y3, y4, none] ∧ S p = some (.l (ys.map tI)) ∧ ys.length = k ∧ trm List.isEmpty ys = pol2 m dn) ⟨_, dn.map (pol m), rfl, hS, rfl, rfl⟩ ?_)
      rintro k sl S ⟨ys, rfl, hS, rfl, ht⟩
      walk_at "ev"
      refine ev_lst ?_
      walk_at "ev"
      refine rv_nel (n := 1) (lv_a hS) pls_tI (by unfold Pls; trivial) (by decide) (fun h => ?_) (fun h => ?_)
      · have hy : ys = [] := List.map_eq_nil_iff.mp h
        subst hy
        walk_at "ev"
        refine rk_tuple (sv_a hS) ?_
        rw [← ht]; rfl
      · have hne : ys ≠ [] := fun z => h (by rw [z]; rfl)
        obtain ⟨zs, x, rfl⟩ := snoc_of hne
        walk_at "ev"
        refine rv_ix (sv_a hS) atI_last ?_
        walk_at "ev"
        refine rv_eqd pl_tI pl_nilT (by decide) (by decide) (n := 1) (m := 1) (fun e => ?_) (fun e => ?_)
        · have hx : x = [] := tI_inj e
          subst hx
          walk_at "ev"
          refine ev_pop ?_
          walk_at "ev"
          rw [map_snoc] at hS
          refine ⟨p, _, _, rfl, hS, ?_⟩
          refine ⟨zs.length, by simp, zs, rfl, put_same, rfl, ?_⟩
          rw [← ht, trm_snoc]; rfl
        · have hx : ¬ x = [] := fun z => e (by rw [z]; rfl)
          walk_at "ev"
          refine rk_tuple (sv_a hS) ?_
          rw [← ht, trm_snoc, if_neg (by simpa using hx)]; rfl
end
end Nf

set_option Elab.async false
set_option linter.all false
set_option maxRecDepth 100000
set_option maxHeartbeats 4000000
namespace Nf
open PySem PySem.Spec PyProof.Rows L2 RT RZ Mz
/-! sizes of the law's own products -/
theorem wide_app {A B : List (List Int)} {n : Nat} (h1 : ∀ r ∈ A, r.length ≤ n) (h2 : ∀ r ∈ B, r.length ≤ n) : wide (A ++ B) ≤ n := mz_leb fun k hk => by
  obtain ⟨r, hr, rfl⟩ := List.mem_map.mp hk
  rcases List.mem_append.mp hr with h | h
  · exact h1 r h
  · exact h2 r h
abbrev hB (a : Nat × Int) (h : List Int) (b : Nat × Int) : List Int := h.set (a.1 + b.1) (co h (a.1 + b.1) + a.2 * b.2)
abbrev hA (qr : List Int) (h : List Int) (a : Nat × Int) : List Int := (en 0 qr).foldl (hB a) h
abbrev hQ (p : Nat × List Int) (acc : List (List Int)) (q : Nat × List Int) : List (List Int) := acc.set (p.1 + q.1) ((en 0 p.2).foldl (hA q.2) (rowM acc (p.1 + q.1)))
abbrev hP (Q : List (List Int)) (acc : List (List Int)) (p : Nat × List Int) : List (List Int) := (en 0 Q).foldl (hQ p) acc
theorem hA_len {qr h : List Int} {a : Nat × Int} : (hA qr h a).length = h.length := foldl_len (fun acc b => List.length_set) _ _
/-- so many rows, so many places -/
def Gr (n k : Nat) (A : List (List Int)) : Prop := A.length = n ∧ ∀ r ∈ A, r.length = k
theorem Gr.set {n k : Nat} {A : List (List Int)} (h : Gr n k A) {i : Nat} {r : List Int} (hr : r.length = k) : Gr n k (A.set i r) :=
  ⟨by rw [List.length_set]; exact h.1, fun x hx => (List.mem_or_eq_of_mem_set hx).elim (h.2 x) fun e => by rw [e]; exact hr⟩
theorem Gr.row {n k : Nat} {A : List (List Int)} (h : Gr n k A) {i : Nat} (hi : i < A.length) : (rowM A i).length = k := by
  unfold rowM
  rw [List.getD_eq_getElem?_getD, List.getElem?_eq_getElem hi]
  exact h.2 _ (List.getElem_mem hi)
theorem gr_lmulR {A B : List (List Int)} : Gr (A.length + B.length) (wide (A ++ B) * 2) (lmulR A B) := by
  unfold lmulR
  refine foldl_inv (Gr _ _) ⟨by rw [List.length_replicate], fun r hr => by rw [(List.mem_replicate.mp hr).2, List.length_replicate]⟩ fun acc p hp h => ?_
  refine foldl_inv (Gr _ _) h fun acc q hq h => h.set ?_
  have e1 := (en_mem hp).1
  have e2 := (en_mem hq).1
  have := h.1
  rw [foldl_len fun acc a => hA_len]
  exact h.row (by omega)
theorem Gr.sz {n k : Nat} {A : List (List Int)} (h : Gr n k A) {b : Nat} (h1 : n ≤ b) (h2 : k ≤ b) : Sz b A := ⟨by rw [h.1]; exact h1, fun r hr => by rw [h.2 r hr]; exact h2⟩
theorem sz_lmul {m : Int} {a b : Nat} {A B : List (List Int)} (h1 : Sz a A) (h2 : Sz b B) (hab : a ≤ b) : Sz (2 * b) (lmulM m A B) := by
  refine sz_pol2 ((gr_lmulR (A := A) (B := B)).sz ?_ ?_)
  · have := h1.1
    have := h2.1
    omega
  · have := wide_app (A := A) (B := B) (n := b) (fun r hr => Nat.le_trans (h1.2 r hr) hab) h2.2
    omega
theorem sz_lmul2 {m : Int} {a b : Nat} {A B : List (List Int)} (h1 : Sz a A) (h2 : Sz b B) (hab : b ≤ a) : Sz (2 * a) (lmulM m A B) := by
  refine sz_pol2 ((gr_lmulR (A := A) (B := B)).sz ?_ ?_)
  · have := h1.1
    have := h2.1
    omega
  · have := wide_app (A := A) (B := B) (n := a) h1.2 (fun r hr => Nat.le_trans (h2.2 r hr) hab)
    omega
theorem sz_add {m b : Int} {n : Nat} {A B : List (List Int)} (h1 : Sz n A) (h2 : Sz n B) : Sz n (addM m A B b) := by
  refine sz_pol2 (sz_mapr _ (Nat.max_le.mpr ⟨h1.1, h2.1⟩) fun i _ => ?_)
  rw [List.length_map, List.length_range]
  exact Nat.max_le.mpr ⟨h1.row i, h2.row i⟩
theorem RedR.mono {m k : Int} {A : List (List Int)} (h : RedR m A) (e : m ≤ k) : RedR k A := fun r hr c hc => ⟨(h r hr c hc).1, Int.lt_of_lt_of_le (h r hr c hc).2 e⟩
theorem redR_one : RedR 1000 [[1]] := fun r hr c hc => by
  rw [List.mem_singleton.mp hr] at hc
  rw [List.mem_singleton.mp hc]
  decide
theorem set_self {A : List (List Int)} {t : Nat} (h : t < A.length) : A.set t (rowM A t) = A := by
  unfold rowM
  rw [List.getD_eq_getElem?_getD, List.getElem?_eq_getElem h]
  exact List.set_getElem_self h
section
variable {K : PySem.W.Frag} {S : Sto} {sl : Sl} {P : PD} {te : TE} {tr : TA} {j : Nat}
/-- so many new rows alike, each of its own -/
theorem ev_lcRows {vs : List Nat} (hv : j ∈ vs) {c : List Int} (h : EvA K tr sl S fun ds S1 => ∃ n : Nat, ds = [.i (n : Int)] ∧ n ≤ 100000 ∧
    (∀ k S2, k < n → Ev K te (setE (wipeE sl vs) j (.i (k : Int))) S2 fun y S3 => ∃ q, y = .a q ∧ S2 q = none ∧ Kp S2 S3 ∧ S3 q = some (.l (c.map Dt.i))) ∧
    (∀ (p : Addr) (qs : List Addr) (S2 : Sto), S2 p = some (.l (qs.map Dt.a)) → RowsAt S2 qs (List.replicate n c) → (p :: qs).Nodup → P (.a p) S2)) :
    Ev K (tLc (iRng1 tr) (gName j) tYes te vs) sl S P := by
  refine lc_gen tg_name (fun i hi => by rw [List.mem_singleton.mp hi]; exact hv) (ei_rng1 fun M σ H hd Q o => h M σ H hd Q fun ds S' M' vs' H' p k s r => o ds S' M' vs' H' ?_ k s r)
  obtain ⟨n, rfl, hn, hs, hp⟩ := p
  refine ⟨n, rfl, hn, fun rest acc S2 => ∃ (qs : List Addr) (zs : List Nat), (∀ z ∈ zs, z < n) ∧ rest = zs.map (fun k : Nat => Dt.i (k : Int)) ∧ acc = qs.map Dt.a ∧ RowsAt S2 qs (List.replicate qs.length c) ∧ qs.Nodup ∧ qs.length + zs.length = n,
    ⟨[], List.range n, fun z hz => List.mem_range.mp hz, rgD01, rfl, trivial, List.nodup_nil, by rw [List.length_range]; simp⟩, fun d r acc S2 i => ?_, fun acc S2 i => .inr fun p hp0 => ?_⟩
  · obtain ⟨qs, zs, hz, e1, rfl, hr, hn1, hl⟩ := i
    cases zs with
    | nil => cases e1
    | cons z zs =>
      cases e1
      rw [List.length_cons] at hl
      refine ⟨by rw [List.length_map]; omega, _, rfl, et_yes ⟨fun _ => (hs z S2 (hz z List.mem_cons_self)).mono fun d S3 q => ?_, fun z => nomatch z⟩⟩
      obtain ⟨q, rfl, hq, hk, hq2⟩ := q
      have hnq : q ∉ qs := fun hm => by
        obtain ⟨k, hk2, e⟩ := List.getElem_of_mem hm
        obtain ⟨q', h1, h2⟩ := hr.get (k := k) (by rw [List.length_replicate]; exact hk2)
        rw [List.getElem?_eq_getElem hk2, e] at h1
        cases h1
        rw [hq] at h2
        cases h2
      refine ⟨qs ++ [q], zs, fun z' hz' => hz z' (List.mem_cons_of_mem _ hz'), rfl, by rw [map_snoc], ?_, ?_, by rw [List.length_append, List.length_singleton]; omega⟩
      · rw [List.length_append, List.length_singleton, List.replicate_succ']
        exact RowsAt.snoc hq2 (hr.keep fun q' _ c' hc' => hk q' c' hc')
      · rw [List.nodup_append]
        exact ⟨hn1, by simp, fun a ha b hb => by rw [List.mem_singleton.mp hb]; exact nem ha hnq⟩
  · obtain ⟨qs, zs, hz, e1, rfl, hr, hn1, hl⟩ := i
    have : zs = [] := List.map_eq_nil_iff.mp e1.symm
    subst this
    rw [List.length_nil, Nat.add_zero] at hl
    subst hl
    have hnq : p ∉ qs := fun hm => by
      obtain ⟨k, hk2, e⟩ := List.getElem_of_mem hm
      obtain ⟨q', h1, h2⟩ := hr.get (k := k) (by rw [List.length_replicate]; exact hk2)
      rw [List.getElem?_eq_getElem hk2, e] at h1
      cases h1
      rw [hp0] at h2
      cases h2
    exact hp p qs _ put_same (hr.keep fun q hq c' hc' => by rw [put_ne (nem hq hnq)]; exact hc') (List.nodup_cons.mpr ⟨hnq, hn1⟩)
end
section
variable {P : Program} {w : World} {K : PySem.W.Frag} {mg : Str → Option Value} {base : Heap}
def R_law_at (ds : List Dt) (r : Dt) : Prop := ∃ (m : Int) (A : List (List Int)) (x y : Int), ds = [.i m, tP A, .i x, .i y] ∧ 0 < m ∧ m ≤ 1000 ∧ r = .i (atM m A x y)
theorem ok_law_at (T : Txt K mg) : FnOk P w K mg base CX0 1 T.d_law_at.f T.d_law_at.fd ["_law_m", "_law_kp", "_law_x", "_law_y"] (spP K R_law_at) := by
  refine okP T.d_law_at.F sc_law_at (fun ds r h => ?_) (fun cdv A outer s H E hr => ⟨_, (pss_cons (ps_asg (pe_tup (pa_cons pe_int (pa_cons pe_int pa_nil))) (k_gtup K (n := 2) rfl (pgs_cons (pg_name (i := 4) sc_law_at.nd rfl (.inl rfl)) (pgs_cons (pg_name (i := 5) sc_law_at.nd rfl (.inl rfl)) pgs_nil))))
      (pss_cons (ps_for PassesOwn.never rfl (k_seq K (pv 1)) (pg_name (i := 6) sc_law_at.nd rfl (.inl rfl)) (pss_cons (ps_set (i := 7) sc_law_at.nd rfl (.inl rfl) (pv 5))
      (pss_cons (ps_for PassesOwn.never rfl (k_seq K (pv 6)) (pg_name (i := 8) sc_law_at.nd rfl (.inl rfl)) (pss_cons (ps_set (i := 4) sc_law_at.nd rfl (.inl rfl) (pe_op (k_add K) (pv 4) (pe_op op_mulA (pv 8) (pv 7))))
      (pss_one (ps_set (i := 7) sc_law_at.nd rfl (.inl rfl) (pe_op op_mod (pe_op op_mulA (pv 7) (pv 3)) (pv 0))))))
      (pss_one (ps_set (i := 5) sc_law_at.nd rfl (.inl rfl) (pe_op op_mod (pe_op op_mulA (pv 5) (pv 2)) (pv 0)))))))
      (pss_one (ps_ret (pe_op op_mod (pv 4) (pv 0)))))), fun ds r h => ?_⟩)
  · obtain ⟨m, A, x, y, rfl, _⟩ := h; rfl
  · obtain ⟨m, A, x, y, rfl, hm, hm2, rfl⟩ := h
    refine wp_seq (wp_asgG (tg_tup (js := [4, 5]) rfl) ?_)
    walk_at "ev"
    refine ⟨_, ⟨rfl, rfl⟩, ?_⟩
    refine wp_seq (wp_forM (α := List Int) tg_name (ei_seq ?_))
    walk_at "ev"
    refine ⟨A.map tI, .inl rfl, A, tI, fun r sl S => ∃ (fo sd : Int) (y6 y7 y8 : Option Dt), sl = [some (.i m), some (tP A), some (.i x), some (.i y), some (.i fo), some (.i sd), y6, y7, y8] ∧ 0 ≤ sd ∧ sd ≤ 1000 ∧
      (r.foldl (fun p row => ((atRow m row y p).1, p.2 * x % m)) (fo, sd)).1 % m = atM m A x y, rfl, ⟨0, 1, none, none, none, rfl, by decide, by decide, rfl⟩, fun row r sl S hrow => ?_, fun sl S => ?_⟩
    · rintro ⟨fo, sd, y6, y7, y8, rfl, h1, h2, e⟩
      refine ⟨_, rfl, ?_⟩
      rw [List.foldl_cons] at e
      refine wp_seq (wp_asg ?_)
      walk_at "ev"
      refine wp_forM (α := Int) tg_name (ei_seq ?_)
      walk_at "ev"
      refine ⟨row.map Dt.i, .inl rfl, row, Dt.i, fun r' sl S => ∃ (fo' ot : Int) (y8 : Option Dt), sl = [some (.i m), some (tP A), some (.i x), some (.i y), some (.i fo'), some (.i sd), some (tI row), some (.i ot), y8] ∧ 0 ≤ ot ∧ ot ≤ 1000 ∧
        r'.foldl (fun q one => (q.1 + one * q.2, q.2 * y % m)) (fo', ot) = atRow m row y (fo, sd), rfl, ⟨fo, sd, y8, rfl, h1, h2, rfl⟩, fun one r' sl S hone => ?_, fun sl S => ?_⟩
      · rintro ⟨fo', ot, y8, rfl, h3, h4, e2⟩
        refine ⟨_, rfl, ?_⟩
        walk_at "ev"
        refine rv_mulS (.inr ⟨by omega, by omega⟩) ?_
        walk_at "ev"
        refine rv_mulS (.inl ⟨by omega, by omega⟩) ?_
        walk_at "ev"
        have b1 := Int.emod_nonneg (ot * y) (show m ≠ 0 by omega)
        have b2 := Int.emod_lt_of_pos (ot * y) hm
        exact ⟨_, _, _, rfl, b1, by omega, e2⟩
      · rintro ⟨fo', ot, y8, rfl, h3, h4, e2⟩
        have e3 : (fo', ot) = atRow m row y (fo, sd) := e2
        walk_at "ev"
        refine rv_mulS (.inl ⟨by omega, by omega⟩) ?_
        walk_at "ev"
        have b1 := Int.emod_nonneg (sd * x) (show m ≠ 0 by omega)
        have b2 := Int.emod_lt_of_pos (sd * x) hm
        refine ⟨fo', _, _, _, _, rfl, b1, by omega, ?_⟩
        rw [← e3] at e
        exact e
    · rintro ⟨fo, sd, y6, y7, y8, rfl, h1, h2, e⟩
      walk_at "ev"
      have e2 : fo % m = atM m A x y := e
      rw [e2]
def R_law_gcd (ds : List Dt) (r : Dt) : Prop := ∃ a b : Nat, ds = [.i (a : Int), .i (b : Int)] ∧ r = .i (Nat.gcd a b : Int)
theorem ok_law_gcd (T : Txt K mg) : FnOk P w K mg base CX0 1 T.d_law_gcd.f T.d_law_gcd.fd ["_law_one", "_law_other"] (spP K R_law_gcd) := by
  refine okP T.d_law_gcd.F sc_law_gcd (fun ds r h => ?_) (fun cdv A outer s H E hr => ⟨_, (pss_cons (ps_while PassesOwn.never (pt_cmpR op_gt (pv 1) pe_int (nomark _)) (pss_one (ps_par (i := 0) (j := 1) rfl sc_law_gcd.nd rfl rfl (by decide) rfl rfl (pa_cons (pv 1) (pa_cons (pe_op op_mod (pv 0) (pv 1)) pa_nil)) (by rfl))))
      (pss_one (ps_ret (pv 0)))), fun ds r h => ?_⟩)
  · obtain ⟨a, b, rfl, rfl⟩ := h; rfl
  · obtain ⟨a, b, rfl, rfl⟩ := h
    refine wp_seq (wp_while (fun m sl _ => ∃ (x y : Nat), sl = [some (.i (x : Int)), some (.i (y : Int))] ∧ Nat.gcd x y = Nat.gcd a b ∧ y = m) ⟨_, a, b, rfl, rfl, rfl⟩ ?_)
    rintro m sl S ⟨x, y, rfl, e, rfl⟩
    walk_at "ev"
    refine dd2 (fun h => ?_) (fun h => ?_)
    · have hy : 0 < y := by omega
      refine wp_par ?_
      walk_at "ev"
      refine ⟨_, _, rfl, x % y, Nat.mod_lt x hy, y, x % y, rfl, ?_, rfl⟩
      rw [← e, Nat.gcd_comm y, ← Nat.gcd_rec, Nat.gcd_comm]
    · have hy : y = 0 := by omega
      subst hy
      walk_at "ev"
      rw [← e, Nat.gcd_zero_right]
def R_law_top (ds : List Dt) (r : Dt) : Prop := ∃ (m : Int) (i j : Nat), ds = [.i m, .i (i : Int), .i (j : Int)] ∧ 0 < m ∧ m ≤ 1000 ∧ i ≤ 400 ∧ j ≤ 400 ∧ r = .i (top m i j)
theorem ok_law_top (T : Txt K mg) : FnOk P w K mg base CX0 2 T.d_law_top.f T.d_law_top.fd ["_law_m", "_law_i", "_law_j"] (spP K R_law_top) := by
  refine okP T.d_law_top.F sc_law_top (fun ds r h => ?_) (fun cdv A outer s H E hr => ⟨_, (pss_cons (ps_set (i := 3) sc_law_top.nd rfl (.inl rfl) pe_int)
      (pss_cons (ps_for PassesOwn.never rfl (k_seq K (pe_op (k_add K) (pe_listRg rfl (by rfl) T.b_list (prg_2 (by rfl) T.b_range pe_int (pe_op (k_add K) (pv 1) pe_int))) (pe_listRg rfl (by rfl) T.b_list (prg_2 (by rfl) T.b_range pe_int (pe_op (k_add K) (pv 2) pe_int))))) (pg_name (i := 4) sc_law_top.nd rfl (.inl rfl)) (pss_one (ps_set (i := 3) sc_law_top.nd rfl (.inl rfl) (pe_op op_mulA (pv 3) (pv 4)))))
      (pss_one (ps_ret (pe_op op_fdiv (pv 0) (pe_call (ok_law_gcd T) (hr.mono (by decide)) (by rfl) T.d_law_gcd.g T.d_law_gcd.F.kp T.d_law_gcd.b .nil pass0 (pa_cons (pv 0) (pa_cons (pv 3) pa_nil)))))))), fun ds r h => ?_⟩)
  · obtain ⟨m, i, j, rfl, _⟩ := h; rfl
  · obtain ⟨m, i, j, rfl, hm, hm2, hi, hj, rfl⟩ := h
    refine wp_seq (wp_asg ?_)
    walk_at "ev"
    refine wp_seq (wp_forM (α := Int) tg_name (ei_seq ?_))
    refine ev_op ?_
    refine ev_lstRg ?_
    walk_at "ev"
    refine ⟨_, _, rfl, rfl, by omega, fun p hp => ?_⟩
    refine ev_lstRg ?_
    walk_at "ev"
    refine ⟨_, _, rfl, rfl, by omega, fun q hq => ?_⟩
    refine rv_addL ⟨p, rfl, put_keep put_same hq⟩ ⟨q, rfl, put_same⟩ (by rw [rgD_len, rgD_len]; omega) (.inl ?_)
    refine ⟨_, .inr rfl, rng 2 1 ((i : Int) + 1 - 2).toNat ++ rng 2 1 ((j : Int) + 1 - 2).toNat, Dt.i, fun r sl S => ∃ (acc : Int) (y4 : Option Dt), sl = [some (.i m), some (.i (i : Int)), some (.i (j : Int)), some (.i acc), y4] ∧ r.foldl (· * ·) acc = ((fac i * fac j : Nat) : Int), by rw [List.map_append, rgD_map, rgD_map], ⟨1, none, rfl, ?_⟩, fun x r sl S hx => ?_, fun sl S => ?_⟩
    · rw [List.foldl_append, fac_rise]
      have hf : ∀ (l : List Int) (a : Int), l.foldl (· * ·) a = a * l.foldl (· * ·) 1 := fun l => by
        induction l with
        | nil => intro a; simp
        | cons x l ih => intro a; rw [List.foldl_cons, List.foldl_cons, ih, ih (1 * x), Int.one_mul, Int.mul_assoc]
      rw [hf, fac_rise, Int.natCast_mul]
    · rintro ⟨acc, y4, rfl, e⟩
      refine ⟨_, rfl, ?_⟩
      have hb : 0 ≤ x ∧ x ≤ 1000 := by
        rcases List.mem_append.mp hx with h | h <;> (obtain ⟨k, hk, rfl⟩ := rng_mem h; omega)
      walk_at "ev"
      refine rv_mulS (.inr ⟨by omega, by omega⟩) ?_
      exact ⟨_, _, rfl, e⟩
    · rintro ⟨acc, y4, rfl, e⟩
      have e2 : acc = ((fac i * fac j : Nat) : Int) := e
      subst e2
      refine wp_next ?_
      walk_at "ev"
      refine ⟨_, ⟨m.toNat, fac i * fac j, by rw [Int.toNat_of_nonneg (by omega)], rfl⟩, ?_⟩
      have e3 : Nat.gcd m.toNat (fac i * fac j) = Int.gcd m ((fac i * fac j : Nat) : Int) := by
        show _ = Nat.gcd m.natAbs _
        rw [Int.natAbs_natCast]
        congr 1
        omega
      rw [e3]
      have hg : 0 < Int.gcd m ((fac i * fac j : Nat) : Int) := Int.gcd_pos_of_ne_zero_left _ (by omega)
      have hg2 : Int.gcd m ((fac i * fac j : Nat) : Int) ≤ m.natAbs := Int.gcd_le_natAbs_left _ (by omega)
      refine rv_fdiv ⟨by omega, by omega⟩ ?_
      rfl
def R_law_add (ds : List Dt) (r : Dt) : Prop := ∃ (m : Int) (A B : List (List Int)) (b : Int), ds = [.i m, tP A, tP B, .i b] ∧ 0 < m ∧ Sz 20000 A ∧ Sz 20000 B ∧ -1000 ≤ b ∧ b ≤ 1000 ∧ r = tP (addM m A B b)
theorem ok_law_add (T : Txt K mg) : FnOk P w K mg base CX0 2 T.d_law_add.f T.d_law_add.fd ["_law_m", "_law_kp", "_law_kq", "_law_by"] (spP K R_law_add) := by
  refine okP T.d_law_add.F sc_law_add (fun ds r h => ?_) (fun cdv A outer s H E hr => ⟨_, (pss_cons (ps_set (i := 4) sc_law_add.nd rfl (.inl rfl) (pe_lst pa_nil))
      (pss_cons (ps_for PassesOwn.never rfl (pi_range1 (by rfl) T.b_range (pa_cons (pe_callB (call_max2 rfl) (by rfl) T.b_max (by decide +kernel) (pa_cons (pe_callB (k_len K) (by rfl) T.b_len (by decide +kernel) (pa_cons (pv 1) pa_nil)) (pa_cons (pe_callB (k_len K) (by rfl) T.b_len (by decide +kernel) (pa_cons (pv 2) pa_nil)) pa_nil))) pa_nil)) (pg_name (i := 5) sc_law_add.nd rfl (.inl rfl)) (pss_cons (ps_set (i := 6) sc_law_add.nd rfl (.inr rfl) (pe_ifExp (pt_cmpR op_lt (pv 5) (pe_callB (k_len K) (by rfl) T.b_len (by decide +kernel) (pa_cons (pv 1) pa_nil)) (nomark _)) (pe_callTy (k_list K) (by rfl) T.b_list (by decide +kernel) (pa_cons (pe_ix (k_ix K) (pv 1) (pv 5) (fun _ _ => rfl)) pa_nil)) (pe_lst pa_nil)))
      (pss_cons (ps_set (i := 7) sc_law_add.nd rfl (.inr rfl) (pe_ifExp (pt_cmpR op_lt (pv 5) (pe_callB (k_len K) (by rfl) T.b_len (by decide +kernel) (pa_cons (pv 2) pa_nil)) (nomark _)) (pe_callTy (k_list K) (by rfl) T.b_list (by decide +kernel) (pa_cons (pe_ix (k_ix K) (pv 2) (pv 5) (fun _ _ => rfl)) pa_nil)) (pe_lst pa_nil)))
      (pss_cons (ps_set (i := 8) sc_law_add.nd rfl (.inl rfl) (pe_callB (call_max2 rfl) (by rfl) T.b_max (by decide +kernel) (pa_cons (pe_callB (k_len K) (by rfl) T.b_len (by decide +kernel) (pa_cons (pv 6) pa_nil)) (pa_cons (pe_callB (k_len K) (by rfl) T.b_len (by decide +kernel) (pa_cons (pv 7) pa_nil)) pa_nil))))
      (pss_cons (ps_set (i := 6) sc_law_add.nd rfl (.inr rfl) (pe_op (k_add K) (pv 6) (pe_op op_mulA (pe_lst (pa_cons pe_int pa_nil)) (pe_op op_sub (pv 8) (pe_callB (k_len K) (by rfl) T.b_len (by decide +kernel) (pa_cons (pv 6) pa_nil))))))
      (pss_cons (ps_set (i := 7) sc_law_add.nd rfl (.inr rfl) (pe_op (k_add K) (pv 7) (pe_op op_mulA (pe_lst (pa_cons pe_int pa_nil)) (pe_op op_sub (pv 8) (pe_callB (k_len K) (by rfl) T.b_len (by decide +kernel) (pa_cons (pv 7) pa_nil))))))
      (pss_one (ps_expr (k_append K (pv 4) (pa_cons (pe_lc (own := [("_law_j", 9)]) rfl sc_law_add.nd (pi_range1 (by rfl) T.b_range (pa_cons (pv 8) pa_nil)) (blkOk_by (by kernel_rfl)) (fun _ _ _ _ _ => (pg_name (i := 9) sc_law_add.nd rfl (.inl rfl))) (fun _ _ _ _ _ => pts_nil) (fun _ _ _ _ _ => (pe_op (k_add K) (pe_ix (k_ix K) (pv 6) (pv 9) (fun _ _ => rfl)) (pe_op op_mulA (pv 3) (pe_ix (k_ix K) (pv 7) (pv 9) (fun _ _ => rfl)))))) pa_nil))))))))))
      (pss_one (ps_ret (pe_call (ok_law_trim T) (hr.mono (by decide)) (by rfl) T.d_law_trim.g T.d_law_trim.F.kp T.d_law_trim.b .nil pass0 (pa_cons (pv 0) (pa_cons (pv 4) pa_nil))))))), fun ds r h => ?_⟩)
  · obtain ⟨m, A, B, b, rfl, _⟩ := h; rfl
  · obtain ⟨m, A, B, b, rfl, hm, hA, hB, hb1, hb2, rfl⟩ := h
    have hA1 := hA.1
    have hB1 := hB.1
    walk_at "ev"
    refine ev_lstA ?_
    walk_at "ev"
    intro p hp
    refine wp_seq (wp_forI ?_)
    walk_at "ev"
    refine ⟨max A.length B.length, fun k sl S => ∃ (y5 y6 y7 y8 : Option Dt), sl = [some (.i m), some (tP A), some (tP B), some (.i b), some (.a p), y5, y6, y7, y8, none] ∧
      S p = some (.l (((List.range k).map fun i => (List.range (max (rowM A i).length (rowM B i).length)).map fun j => co (rowM A i) j + b * co (rowM B i) j).map lI)), by congr 2; rw [List.length_map, List.length_map]; omega, by omega, ⟨none, none, none, none, rfl, put_same⟩, fun k sl S hk => ?_, fun sl S => ?_⟩
    · rintro ⟨y5, y6, y7, y8, rfl, hS⟩
      have hra := hA.row k
      have hrb := hB.row k
      refine wp_seq (wp_asg (Ev.mono (P' := fun d S' => ∃ q, d = .a q ∧ S q = none ∧ S' = S.put q (.l ((rowM A k).map Dt.i))) ?_ ?_))
      · walk_at "ev"
        refine dd2 (fun h => ?_) (fun h => ?_)
        · have hk : k < A.length := by rw [List.length_map] at h; omega
          walk_at "ev"
          refine rv_ix sv_t (atI_nn rfl (row_gl hk)) ?_
          walk_at "ev"
          exact rk_list sv_t (.inr fun q hq => ⟨q, rfl, hq, rfl⟩)
        · have hk : ¬ k < A.length := by rw [List.length_map] at h; omega
          refine ev_lstA ?_
          walk_at "ev"
          intro q hq
          exact ⟨q, rfl, hq, by rw [row_out hk]; rfl⟩
      rintro d S' ⟨qa, rfl, hqa, rfl⟩
      refine wp_seq (wp_asg (Ev.mono (P' := fun d S' => ∃ q, d = .a q ∧ (S.put qa (.l ((rowM A k).map Dt.i))) q = none ∧ S' = (S.put qa (.l ((rowM A k).map Dt.i))).put q (.l ((rowM B k).map Dt.i))) ?_ ?_))
      · walk_at "ev"
        refine dd2 (fun h => ?_) (fun h => ?_)
        · have hk : k < B.length := by rw [List.length_map] at h; omega
          walk_at "ev"
          refine rv_ix sv_t (atI_nn rfl (row_gl hk)) ?_
          walk_at "ev"
          exact rk_list sv_t (.inr fun q hq => ⟨q, rfl, hq, rfl⟩)
        · have hk : ¬ k < B.length := by rw [List.length_map] at h; omega
          refine ev_lstA ?_
          walk_at "ev"
          intro q hq
          exact ⟨q, rfl, hq, by rw [row_out hk]; rfl⟩
      rintro d S' ⟨qb, rfl, hqb, rfl⟩
      have ka : ((S.put qa (.l ((rowM A k).map Dt.i))).put qb (.l ((rowM B k).map Dt.i))) qa = some (.l ((rowM A k).map Dt.i)) := put_keep put_same hqb
      have kb : ((S.put qa (.l ((rowM A k).map Dt.i))).put qb (.l ((rowM B k).map Dt.i))) qb = some (.l ((rowM B k).map Dt.i)) := put_same
      have kp : ((S.put qa (.l ((rowM A k).map Dt.i))).put qb (.l ((rowM B k).map Dt.i))) p = _ := put_keep (put_keep hS hqa) hqb
      generalize ((S.put qa (.l ((rowM A k).map Dt.i))).put qb (.l ((rowM B k).map Dt.i))) = S1 at ka kb kp
      walk_at "ev"
      refine rk_len (sv_a ka) ?_
      walk_at "ev"
      refine rk_len (sv_a kb) ?_
      walk_at "ev"
      generalize hW : max (rowM A k).length (rowM B k).length = W
      have hW2 : max (((rowM A k).map Dt.i).length : Int) (((rowM B k).map Dt.i).length : Int) = (W : Int) := by rw [List.length_map, List.length_map]; omega
      rw [hW2]
      refine ev_lstA ?_
      walk_at "ev"
      intro z0 hz0
      walk_at "ev"
      refine rk_len (sv_a (put_keep ka hz0)) ?_
      refine rv_sub ?_
      refine rv_mulN (ds := [.i 0]) (n := W - (rowM A k).length) ⟨_, rfl, put_same⟩ (by rw [List.length_map]; omega) (by simp; omega) (by omega) (.inr fun z1 hz1 => ?_)
      rw [rep_one, rep_ints]
      refine rv_addL ⟨qa, rfl, put_keep (put_keep ka hz0) hz1⟩ ⟨z1, rfl, put_same⟩ (by simp; omega) (.inl ?_)
      have kb2 := put_keep (c := .l [Dt.i 0]) kb hz0
      have kp2 := put_keep (c := .l [Dt.i 0]) kp hz0
      have kb3 := put_keep (c := .l (List.map Dt.i (List.replicate (W - (rowM A k).length) 0))) kb2 hz1
      have kp3 := put_keep (c := .l (List.map Dt.i (List.replicate (W - (rowM A k).length) 0))) kp2 hz1
      generalize ((S1.put z0 (.l [Dt.i 0])).put z1 (.l (List.map Dt.i (List.replicate (W - (rowM A k).length) 0)))) = S2 at kb3 kp3
      walk_at "ev"
      refine ev_lstA ?_
      walk_at "ev"
      intro z2 hz2
      walk_at "ev"
      refine rk_len (sv_a (put_keep kb3 hz2)) ?_
      refine rv_sub ?_
      refine rv_mulN (ds := [.i 0]) (n := W - (rowM B k).length) ⟨_, rfl, put_same⟩ (by rw [List.length_map]; omega) (by simp; omega) (by omega) (.inr fun z3 hz3 => ?_)
      rw [rep_one, rep_ints]
      refine rv_addL ⟨qb, rfl, put_keep (put_keep kb3 hz2) hz3⟩ ⟨z3, rfl, put_same⟩ (by simp; omega) (.inl ?_)
      have kp4 := put_keep (c := .l (List.map Dt.i (List.replicate (W - (rowM B k).length) 0))) (put_keep (c := .l [Dt.i 0]) kp3 hz2) hz3
      generalize ((S2.put z2 (.l [Dt.i 0])).put z3 (.l (List.map Dt.i (List.replicate (W - (rowM B k).length) 0)))) = S3 at kp4
      have epa : ∀ {f : List Int}, f.map Dt.i ++ (List.replicate (W - f.length) (0 : Int)).map Dt.i = (pad W f).map Dt.i := fun {f} => by unfold pad; rw [List.map_append]
      rw [epa, epa]
      have hpl : ∀ {f : List Int}, f.length ≤ W → (pad W f).length = W := fun h => pad_len h
      have hpc : ∀ {f : List Int} {j : Nat}, co (pad W f) j = co f j := fun {f j} => by
        unfold co pad
        rw [List.getD_eq_getElem?_getD, List.getD_eq_getElem?_getD]
        by_cases h : j < f.length
        · rw [List.getElem?_append_left h]
        · rw [List.getElem?_append_right (by omega), List.getElem?_eq_none (l := f) (by omega), List.getElem?_replicate]
          split <;> rfl
      walk_at "ev"
      refine ev_append ?_
      walk_at "ev"
      refine ⟨p, _, rfl, kp4, ?_⟩
      refine ev_lcN (by simp) ?_
      walk_at "ev"
      refine ⟨W, fun j => .i (co (rowM A k) j + b * co (rowM B k) j), rfl, by omega, fun j hj => ?_, .inl ?_⟩
      · walk_at "ev"
        refine rv_ix sv_l (atI_nn rfl (co_at (by rw [hpl (by omega)]; exact hj))) ?_
        walk_at "ev"
        refine rv_ix sv_l (atI_nn rfl (co_at (by rw [hpl (by omega)]; exact hj))) ?_
        refine rv_mulS (.inl ⟨by omega, by omega⟩) ?_
        walk_at "ev"
        rw [hpc, hpc]
        exact ⟨rfl, rfl⟩
      · refine ⟨kp4, by rw [List.length_map, List.length_map, List.length_range]; omega, ?_⟩
        refine ⟨_, _, _, _, rfl, ?_⟩
        rw [put_same, List.range_succ, List.map_append, List.map_append, ← hW]
        unfold lI
        simp only [List.map_map, List.map_cons, List.map_nil]
        rfl
    · rintro ⟨y5, y6, y7, y8, rfl, hS⟩
      refine wp_freeze (i := 4) rfl hS ?_
      walk_at "ev"
      refine ⟨_, ⟨m, _, rfl, hm, ?_, rfl⟩, rfl⟩
      refine sz_mapr _ (by omega) fun i _ => ?_
      have := hA.row i
      have := hB.row i
      rw [List.length_map, List.length_range]
      omega
end
end Nf

set_option Elab.async false
set_option linter.all false
set_option maxRecDepth 100000
set_option maxHeartbeats 4000000
namespace Nf
open PySem PySem.Spec PyProof.Rows L2 RT RZ Mz
theorem put_none {S : Sto} {p q : Addr} {c : Cel} (h : (S.put p c) q = none) : S q = none := by
  by_cases e : q = p
  · subst e; rw [put_same] at h; cases h
  · rw [put_ne e] at h; exact h
theorem row_set {A : List (List Int)} {t : Nat} {h : List Int} (ht : t < A.length) : rowM (A.set t h) t = h := by
  unfold rowM
  rw [List.getD_eq_getElem?_getD, List.getElem?_set_self ht]; rfl
theorem down_rg {n k : Nat} (h : k + 1 ≤ n) : rgD ((n : Int) - 2) (-1) (((n : Int) - 2) - ((k : Int) - 1)).toNat = (downTo (n - 1) k).map fun i : Nat => Dt.i (i : Int) := by
  have e : ∀ d : Nat, ∀ k : Nat, (downTo (k + d) k) = (List.range d).map fun i => k + d - 1 - i := fun d => by
    induction d with
    | zero =>
      intro k
      unfold downTo
      have : (List.range (k + 0)).filter (fun i => decide (k ≤ i)) = [] := by
        rw [List.filter_eq_nil_iff]
        intro i hi
        have := List.mem_range.mp hi
        simp; omega
      rw [this]; rfl
    | succ d ih =>
      intro k
      unfold downTo at ih ⊢
      rw [show k + (d + 1) = (k + d) + 1 by omega, List.range_succ, List.filter_append, List.reverse_append, ih k, List.range_succ_eq_map, List.map_cons, List.map_map]
      have : [k + d].filter (fun i => decide (k ≤ i)) = [k + d] := by simp
      rw [this]
      show [k + d] ++ _ = _
      rw [List.singleton_append]
      congr 1
      apply List.map_congr_left
      intro i _
      show k + d - 1 - i = k + d + 1 - 1 - (i + 1)
      omega
  have e2 := e (n - 1 - k) k
  rw [show k + (n - 1 - k) = n - 1 by omega] at e2
  rw [e2, List.map_map]
  unfold rgD
  rw [show (((n : Int) - 2) - ((k : Int) - 1)).toNat = n - 1 - k by omega]
  apply List.map_congr_left
  intro i hi
  have := List.mem_range.mp hi
  dsimp only [Function.comp]
  congr 1
  omega
theorem up_rg {n k : Nat} (h : k + 1 ≤ n) : rgD (k : Int) 1 (((n : Int) - 1) - (k : Int)).toNat = ((List.range (n - 1)).filter fun i => decide (k ≤ i)).map fun i : Nat => Dt.i (i : Int) := by
  have e : ∀ d : Nat, ∀ k : Nat, ((List.range (k + d)).filter fun i => decide (k ≤ i)) = (List.range d).map fun i => k + i := fun d => by
    induction d with
    | zero =>
      intro k
      rw [List.filter_eq_nil_iff.mpr]
      · rfl
      · intro i hi
        have := List.mem_range.mp hi
        simp; omega
    | succ d ih =>
      intro k
      rw [show k + (d + 1) = (k + d) + 1 by omega, List.range_succ, List.filter_append, ih k, List.range_succ, List.map_append]
      congr 1
      simp
  have e2 := e (n - 1 - k) k
  rw [show k + (n - 1 - k) = n - 1 by omega] at e2
  rw [e2, List.map_map]
  unfold rgD
  rw [show (((n : Int) - 1) - (k : Int)).toNat = n - 1 - k by omega]
  apply List.map_congr_left
  intro i hi
  dsimp only [Function.comp]
  congr 1
  omega
theorem all_rg {n : Nat} : rgD ((n : Int) - 1) (-1) (((n : Int) - 1) - (-1)).toNat = ((List.range n).reverse).map fun i : Nat => Dt.i (i : Int) := by
  have e : (List.range n).reverse = (List.range n).map fun i => n - 1 - i := by
    induction n with
    | zero => rfl
    | succ n ih =>
      rw [List.range_succ, List.reverse_append, ih, ← List.range_succ, List.range_succ_eq_map, List.map_cons, List.map_map]
      show [n] ++ _ = _
      rw [List.singleton_append]
      congr 1
      apply List.map_congr_left
      intro i _
      show n - 1 - i = n + 1 - 1 - (i + 1)
      omega
  rw [e, List.map_map]
  unfold rgD
  rw [show (((n : Int) - 1) - (-1)).toNat = n by omega]
  apply List.map_congr_left
  intro i hi
  have := List.mem_range.mp hi
  dsimp only [Function.comp]
  congr 1
  omega
theorem down_mem {a b i : Nat} (h : i ∈ downTo a b) : b ≤ i ∧ i < a := by
  unfold downTo at h
  have h2 := List.mem_filter.mp (List.mem_reverse.mp h)
  exact ⟨of_decide_eq_true h2.2, List.mem_range.mp h2.1⟩
theorem splitK_len {m : Int} {k : Nat} {l : List Int} : (splitK m k l).length = l.length := foldl_len (fun acc i => List.length_set) _ _
theorem splitM_len {m : Int} {l : List Int} : (splitM m l).length = l.length := foldl_len (fun acc i => splitK_len) _ _
theorem unsplitK_len {m : Int} {k : Nat} {l : List Int} : (unsplitK m k l).length = l.length := foldl_len (fun acc i => List.length_set) _ _
theorem unsplitM_len {m : Int} {l : List Int} : (unsplitM m l).length = l.length := foldl_len (fun acc i => unsplitK_len) _ _
theorem sz_wideGo {m : Int} {sh : List (List Int)} (hs : Sz 8 sh) : ∀ (f : List Int) {fd pw : List (List Int)} {a : Nat}, 8 ≤ a → Sz a fd → Sz a pw → Sz (a * 2 ^ f.length) (wideGo m sh f fd pw)
  | [], fd, pw, a, _, h, _ => by rw [List.length_nil, Nat.pow_zero, Nat.mul_one]; exact h
  | x :: f, fd, pw, a, ha, h1, h2 => by
    have := sz_wideGo (m := m) hs f (a := 2 * a) (by omega) ((sz_add (m := m) (b := x) h1 h2).mono (by omega)) (sz_lmul2 (m := m) h2 hs ha)
    rw [List.length_cons, Nat.pow_succ]
    rw [show a * (2 ^ f.length * 2) = 2 * a * 2 ^ f.length by rw [Nat.mul_comm (2 ^ f.length), ← Nat.mul_assoc, Nat.mul_comm a 2]]
    exact this
theorem sz_lwide {m : Int} {A R : List (List Int)} {s : List Int × Int} (h1 : Sz 8 A) (h2 : Sz 8 R) (h3 : s.1.length ≤ 4) : Sz 128 (lwideM m A R s) := by
  unfold lwideM
  refine (sz_wideGo (m := m) (sz_add h2 (sz_one (by decide))) s.1 (a := 8) (Nat.le_refl _) h1 (sz_one (by decide))).mono ?_
  have := Nat.pow_le_pow_right (n := 2) (by decide) h3
  omega
section
variable {P : Program} {w : World} {K : PySem.W.Frag} {mg : Str → Option Value} {base : Heap}
def R_law_mul (ds : List Dt) (r : Dt) : Prop := ∃ (m : Int) (A B : List (List Int)), ds = [.i m, tP A, tP B] ∧ 0 < m ∧ RedR 1000 A ∧ Sz 10000 A ∧ Sz 10000 B ∧ r = tP (lmulM m A B)
theorem ok_law_mul (T : Txt K mg) : FnOk P w K mg base CX0 2 T.d_law_mul.f T.d_law_mul.fd ["_law_m", "_law_kp", "_law_kq"] (spP K R_law_mul) := by
  refine okP T.d_law_mul.F sc_law_mul (fun ds r h => ?_) (fun cdv A outer s H E hr => ⟨_, (pss_cons (ps_set (i := 4) sc_law_mul.nd rfl (.inr rfl) (pe_op op_mulA (pe_callBK (k_maxD K) (by rfl) T.b_max (by decide +kernel) (pa_cons (pe_lc (own := [("_law_row", 3)]) rfl sc_law_mul.nd (k_seq K (pe_op (k_add K) (pv 1) (pv 2))) (blkOk_by (by kernel_rfl)) (fun _ _ _ _ _ => (pg_name (i := 3) sc_law_mul.nd rfl (.inl rfl))) (fun _ _ _ _ _ => pts_nil) (fun _ _ _ _ _ => (pe_callB (k_len K) (by rfl) T.b_len (by decide +kernel) (pa_cons (pv 3) pa_nil)))) pa_nil) (pk_cons pe_int pk_nil)) pe_int))
      (pss_cons (ps_setLc (i := 6) (own := [("_law_k", 5)]) rfl sc_law_mul.nd rfl rfl (sw_true rfl rfl rfl (by decide +kernel)) (pi_range1 (by rfl) T.b_range (pa_cons (pe_op (k_add K) (pe_callB (k_len K) (by rfl) T.b_len (by decide +kernel) (pa_cons (pv 1) pa_nil)) (pe_callB (k_len K) (by rfl) T.b_len (by decide +kernel) (pa_cons (pv 2) pa_nil))) pa_nil)) (blkOk_by (by kernel_rfl)) (fun _ _ _ _ _ => (pg_name (i := 5) sc_law_mul.nd rfl (.inl rfl))) (fun _ _ _ _ _ => pts_nil) (fun _ _ _ _ _ => (pe_op op_mulA (pe_lst (pa_cons pe_int pa_nil)) (pv 4))))
      (pss_cons (ps_for PassesOwn.never rfl (k_enum K (by rfl) T.b_enumerate (pa_cons (pv 1) pa_nil)) (k_gtup K (n := 2) rfl (pgs_cons (pg_name (i := 7) sc_law_mul.nd rfl (.inl rfl)) (pgs_cons (pg_name (i := 3) sc_law_mul.nd rfl (.inl rfl)) pgs_nil))) (pss_one (ps_for PassesOwn.never rfl (k_enum K (by rfl) T.b_enumerate (pa_cons (pv 2) pa_nil)) (k_gtup K (n := 2) rfl (pgs_cons (pg_name (i := 5) sc_law_mul.nd rfl (.inl rfl)) (pgs_cons (pg_name (i := 8) sc_law_mul.nd rfl (.inl rfl)) pgs_nil))) (pss_cons (ps_set (i := 9) sc_law_mul.nd rfl (.inl rfl) (pe_ix (k_ix K) (pv 6) (pe_op (k_add K) (pv 7) (pv 5)) (fun _ _ => rfl)))
      (pss_one (ps_for PassesOwn.never rfl (k_enum K (by rfl) T.b_enumerate (pa_cons (pv 3) pa_nil)) (k_gtup K (n := 2) rfl (pgs_cons (pg_name (i := 10) sc_law_mul.nd rfl (.inl rfl)) (pgs_cons (pg_name (i := 11) sc_law_mul.nd rfl (.inl rfl)) pgs_nil))) (pss_one (ps_for PassesOwn.never rfl (k_enum K (by rfl) T.b_enumerate (pa_cons (pv 8) pa_nil)) (k_gtup K (n := 2) rfl (pgs_cons (pg_name (i := 12) sc_law_mul.nd rfl (.inl rfl)) (pgs_cons (pg_name (i := 13) sc_law_mul.nd rfl (.inl rfl)) pgs_nil))) (pss_one (ps_asg (pe_op (k_add K) (pe_ix (k_ix K) (pv 9) (pe_op (k_add K) (pv 10) (pv 12)) (fun _ _ => rfl)) (pe_op op_mulA (pv 11) (pv 13))) (pg_sub (pv 9) (pe_op (k_add K) (pv 10) (pv 12)) set_list)))))))))))
      (pss_one (ps_ret (pe_call (ok_law_trim T) (hr.mono (by decide)) (by rfl) T.d_law_trim.g T.d_law_trim.F.kp T.d_law_trim.b .nil pass0 (pa_cons (pv 0) (pa_cons (pv 6) pa_nil)))))))), fun ds r h => ?_⟩)
  · obtain ⟨m, A, B, rfl, _⟩ := h; rfl
  · obtain ⟨m, A, B, rfl, hm, hR, zA, zB, rfl⟩ := h
    have hA1 := zA.1
    have hB1 := zB.1
    have hw := wide_app (A := A) (B := B) (n := 10000) zA.2 zB.2
    walk_at "ev"
    refine ev_maxD ?_
    walk_at "ev"
    refine ev_lc (α := List Int) tg_name (by simp) (ei_seq ?_)
    walk_at "ev"
    refine rv_addT (ds := A.map tI) (es := B.map tI) (by simp; omega) ?_
    refine ⟨_, .inl rfl, A ++ B, tI, fun x => .i (x.length : Int), by rw [List.map_append], by simp; omega, fun x hx => ⟨_, rfl, ?_⟩, .inl ?_⟩
    · walk_at "ev"
      rw [List.length_map]
      exact ⟨rfl, rfl⟩
    walk_at "ev"
    refine ⟨_, rfl, ?_⟩
    walk_at "ev"
    refine ⟨(A ++ B).map List.length, rfl, .inl (by rw [List.map_map]; rfl), ?_⟩
    walk_at "ev"
    refine rv_mulS (.inr ⟨by decide, by decide⟩) ?_
    rw [show ((mx ((A ++ B).map List.length) : Nat) : Int) * 2 = ((wide (A ++ B) * 2 : Nat) : Int) from rfl]
    have hgr : Gr (A.length + B.length) (wide (A ++ B) * 2) (List.replicate (A.length + B.length) (List.replicate (wide (A ++ B) * 2) 0)) := ⟨by rw [List.length_replicate], fun r hr => by rw [(List.mem_replicate.mp hr).2, List.length_replicate]⟩
    have hst : (en 0 A).foldl (hP B) (List.replicate (A.length + B.length) (List.replicate (wide (A ++ B) * 2) 0)) = lmulR A B := rfl
    have hwA : ∀ r ∈ A, 2 * r.length ≤ wide (A ++ B) * 2 := fun r hr => by have := wide_mem (List.mem_append_left B hr); omega
    have hwB : ∀ r ∈ B, 2 * r.length ≤ wide (A ++ B) * 2 := fun r hr => by have := wide_mem (List.mem_append_right A hr); omega
    have hw2 : wide (A ++ B) * 2 ≤ 20000 := by omega
    generalize wide (A ++ B) * 2 = W at hgr hst hwA hwB hw2 ⊢
    walk_at "ev"
    refine ev_lcRows (c := List.replicate W 0) (by simp) ?_
    walk_at "ev"
    refine ⟨A.length + B.length, by congr 2; rw [List.length_map, List.length_map]; omega, by omega, fun k S2 hk => ?_, fun p qs S2 hp hr hn => ?_⟩
    · refine ev_op ?_
      refine ev_lstA ?_
      walk_at "ev"
      intro z hz
      walk_at "ev"
      refine rv_mulN (ds := [.i 0]) (n := W) ⟨_, rfl, put_same⟩ rfl (by simp; omega) (by omega) (.inr fun q hq => ?_)
      rw [rep_one, rep_ints]
      exact ⟨q, rfl, put_none hq, ((Kp.refl _).put hz).put hq, put_same⟩
    have hpn := (List.nodup_cons.mp hn).1
    have hqn := (List.nodup_cons.mp hn).2
    generalize hA0 : List.replicate (A.length + B.length) (List.replicate W (0 : Int)) = A0 at hr hst hgr
    refine wp_seq (wp_forM (α := Nat × List Int) (tg_tup (js := [7, 3]) rfl) (ei_enum ?_))
    walk_at "ev"
    refine ⟨A.map tI, .inr rfl, en 0 A, eQ, fun r sl S => ∃ (acc : List (List Int)) (y3 y5 y7 y8 y9 y10 y11 y12 y13 : Option Dt), sl = [some (.i m), some (tP A), some (tP B), y3, some (.i (W : Int)), y5, some (.a p), y7, y8, y9, y10, y11, y12, y13] ∧
      S p = some (.l (qs.map Dt.a)) ∧ RowsAt S qs acc ∧ Gr (A.length + B.length) W acc ∧ r.foldl (hP B) acc = lmulR A B, enD_map, ⟨A0, none, none, none, none, none, none, none, none, none, rfl, hp, hr, hgr, hst⟩, fun q1 r sl S hq1 => ?_, fun sl S => ?_⟩
    · rintro ⟨acc, y3, y5, y7, y8, y9, y10, y11, y12, y13, rfl, hp, hr, hgr, hst⟩
      refine ⟨_, ⟨rfl, rfl⟩, ?_⟩
      obtain ⟨i, row⟩ := q1
      have h1 := en_mem hq1
      have hil : i < A.length := h1.1
      have hrw : 2 * row.length ≤ W := hwA _ h1.2.2
      have hrr : Red 1000 row := hR _ h1.2.2
      rw [List.foldl_cons] at hst
      refine wp_forM (α := Nat × List Int) (tg_tup (js := [5, 8]) rfl) (ei_enum ?_)
      walk_at "ev"
      refine ⟨B.map tI, .inr rfl, en 0 B, eQ, fun r2 sl S => ∃ (acc2 : List (List Int)) (y5 y8 y9 y10 y11 y12 y13 : Option Dt), sl = [some (.i m), some (tP A), some (tP B), some (tI row), some (.i (W : Int)), y5, some (.a p), some (.i (i : Int)), y8, y9, y10, y11, y12, y13] ∧
        S p = some (.l (qs.map Dt.a)) ∧ RowsAt S qs acc2 ∧ Gr (A.length + B.length) W acc2 ∧ r2.foldl (hQ (i, row)) acc2 = hP B acc (i, row), enD_map, ⟨acc, y5, y8, y9, y10, y11, y12, y13, rfl, hp, hr, hgr, rfl⟩, fun q2 r2 sl S hq2 => ?_, fun sl S => ?_⟩
      · rintro ⟨acc2, y5, y8, y9, y10, y11, y12, y13, rfl, hp, hr, hgr2, hst2⟩
        refine ⟨_, ⟨rfl, rfl⟩, ?_⟩
        obtain ⟨k, more⟩ := q2
        have h2 := en_mem hq2
        have hkl : k < B.length := h2.1
        have hmw : 2 * more.length ≤ W := hwB _ h2.2.2
        rw [List.foldl_cons] at hst2
        have hik : i + k < acc2.length := by rw [hgr2.1]; omega
        obtain ⟨q, hq1, hq2⟩ := hr.get hik
        have hqm : q ∈ qs := List.mem_of_getElem? hq1
        have hqp : p ≠ q := (nem hqm hpn).symm
        walk_at "ev"
        refine rv_ix (sv_a hp) (atI_nn (j := i + k) (d := Dt.a q) (by omega) (by rw [List.getElem?_map, hq1]; rfl)) ?_
        refine wp_forM (α := Nat × Int) (tg_tup (js := [10, 11]) rfl) (ei_enum ?_)
        walk_at "ev"
        refine ⟨row.map Dt.i, .inr rfl, en 0 row, eI, fun r3 sl S => ∃ (h : List Int) (y10 y11 y12 y13 : Option Dt), sl = [some (.i m), some (tP A), some (tP B), some (tI row), some (.i (W : Int)), some (.i (k : Int)), some (.a p), some (.i (i : Int)), some (tI more), some (.a q), y10, y11, y12, y13] ∧
          S p = some (.l (qs.map Dt.a)) ∧ RowsAt S qs (acc2.set (i + k) h) ∧ h.length = W ∧ r3.foldl (hA more) h = (en 0 row).foldl (hA more) (rowM acc2 (i + k)), enD_map, ⟨rowM acc2 (i + k), y10, y11, y12, y13, rfl, hp, by rw [set_self hik]; exact hr, hgr2.row hik, rfl⟩, fun q3 r3 sl S hq3 => ?_, fun sl S => ?_⟩
        · rintro ⟨h, y10, y11, y12, y13, rfl, hp, hr, hhl, hst3⟩
          refine ⟨_, ⟨rfl, rfl⟩, ?_⟩
          obtain ⟨j, one⟩ := q3
          have h3 := en_mem hq3
          have hjl : j < row.length := h3.1
          have hone : 0 ≤ one ∧ one < 1000 := hrr _ h3.2.2
          rw [List.foldl_cons] at hst3
          refine wp_forM (α := Nat × Int) (tg_tup (js := [12, 13]) rfl) (ei_enum ?_)
          walk_at "ev"
          refine ⟨more.map Dt.i, .inr rfl, en 0 more, eI, fun r4 sl S => ∃ (h' : List Int) (y12 y13 : Option Dt), sl = [some (.i m), some (tP A), some (tP B), some (tI row), some (.i (W : Int)), some (.i (k : Int)), some (.a p), some (.i (i : Int)), some (tI more), some (.a q), some (.i (j : Int)), some (.i one), y12, y13] ∧
            S p = some (.l (qs.map Dt.a)) ∧ RowsAt S qs (acc2.set (i + k) h') ∧ h'.length = W ∧ r4.foldl (hB (j, one)) h' = hA more h (j, one), enD_map, ⟨h, y12, y13, rfl, hp, hr, hhl, rfl⟩, fun q4 r4 sl S hq4 => ?_, fun sl S => ?_⟩
          · rintro ⟨h', y12, y13, rfl, hp, hr, hhl', hst4⟩
            refine ⟨_, ⟨rfl, rfl⟩, ?_⟩
            obtain ⟨n, other⟩ := q4
            have h4 := en_mem hq4
            have hnl : n < more.length := h4.1
            have hjn : j + n < h'.length := by omega
            have hSq : S q = some (.l (h'.map Dt.i)) := by
              obtain ⟨q', e1, e2⟩ := hr.get (k := i + k) (by rw [List.length_set]; exact hik)
              rw [hq1] at e1
              cases e1
              rw [row_set hik] at e2
              exact e2
            refine wp_setL ?_
            walk_at "ev"
            refine rv_ix (sv_a hSq) (atI_nn (j := j + n) (by omega) (co_at hjn)) ?_
            walk_at "ev"
            refine rv_mulS (.inl ⟨by omega, by omega⟩) ?_
            walk_at "ev"
            refine ⟨q, _, _, j + n, rfl, rfl, hSq, ixN_nn (by omega) (by rw [List.length_map]; exact hjn), ?_⟩
            rw [co_set]
            refine ⟨_, _, _, rfl, by rw [put_ne hqp]; exact hp, ?_, by rw [List.length_set]; exact hhl', hst4⟩
            have := hr.set (r := h'.set (j + n) (co h' (j + n) + one * other)) hqn hq1
            rw [List.set_set] at this
            exact this
          · rintro ⟨h', y12, y13, rfl, hp, hr, hhl', hst4⟩
            have e2 : h' = hA more h (j, one) := hst4
            rw [← e2] at hst3
            exact ⟨h', _, _, _, _, rfl, hp, hr, hhl', hst3⟩
        · rintro ⟨h, y10, y11, y12, y13, rfl, hp, hr, hhl, hst3⟩
          have e2 : h = (en 0 row).foldl (hA more) (rowM acc2 (i + k)) := hst3
          refine ⟨acc2.set (i + k) h, _, _, _, _, _, _, _, rfl, hp, hr, hgr2.set hhl, ?_⟩
          rw [e2]
          exact hst2
      · rintro ⟨acc2, y5, y8, y9, y10, y11, y12, y13, rfl, hp, hr, hgr2, hst2⟩
        have e2 : acc2 = hP B acc (i, row) := hst2
        rw [← e2] at hst
        exact ⟨acc2, _, _, _, _, _, _, _, _, _, rfl, hp, hr, hgr2, hst⟩
    · rintro ⟨acc, y3, y5, y7, y8, y9, y10, y11, y12, y13, rfl, hp, hr, hgr, hst⟩
      have e2 : acc = lmulR A B := hst
      refine wp_freeze2 (i := 6) rfl hp hr hn ?_
      walk_at "ev"
      refine ⟨_, ⟨m, acc, rfl, hm, hgr.sz (by omega) (by omega), rfl⟩, ?_⟩
      rw [e2]; rfl
def R_law_split (ds : List Dt) (r : Dt) : Prop := ∃ (m : Int) (f : List Int), ds = [.i m, lI f] ∧ 0 < m ∧ f.length ≤ 400 ∧ r = lI (splitM m f)
theorem ok_law_split (T : Txt K mg) : FnOk P w K mg base CX0 1 T.d_law_split.f T.d_law_split.fd ["_law_m", "_law_numbers"] (spP K R_law_split) := by
  refine okP T.d_law_split.F sc_law_split (fun ds r h => ?_) (fun cdv A outer s H E hr => ⟨_, (pss_cons (ps_set (i := 2) sc_law_split.nd rfl (.inl rfl) (pe_callTy (k_list K) (by rfl) T.b_list (by decide +kernel) (pa_cons (pv 1) pa_nil)))
      (pss_cons (ps_for PassesOwn.never rfl (pi_range1 (by rfl) T.b_range (pa_cons (pe_callB (k_len K) (by rfl) T.b_len (by decide +kernel) (pa_cons (pv 2) pa_nil)) pa_nil)) (pg_name (i := 3) sc_law_split.nd rfl (.inl rfl)) (pss_one (ps_for PassesOwn.never rfl (pi_range3 (by rfl) T.b_range (pa_cons (pe_op op_sub (pe_callB (k_len K) (by rfl) T.b_len (by decide +kernel) (pa_cons (pv 2) pa_nil)) pe_int) (pa_cons (pe_op op_sub (pv 3) pe_int) (pa_cons (pe_un un_neg pe_int) pa_nil)))) (pg_name (i := 4) sc_law_split.nd rfl (.inl rfl)) (pss_one (ps_asg (pe_op op_mod (pe_op (k_add K) (pe_ix (k_ix K) (pv 2) (pv 4) (fun _ _ => rfl)) (pe_op op_mulA (pv 3) (pe_ix (k_ix K) (pv 2) (pe_op (k_add K) (pv 4) pe_int) (fun _ _ => rfl)))) (pv 0)) (pg_sub (pv 2) (pv 4) set_list))))))
      (pss_one (ps_ret (pv 2))))), fun ds r h => ?_⟩)
  · obtain ⟨m, f, rfl, _⟩ := h; rfl
  · obtain ⟨m, f, rfl, hm, hf, rfl⟩ := h
    walk_at "ev"
    refine rk_list sv_l (.inr fun p hp => ?_)
    refine wp_seq (wp_forI ?_)
    walk_at "ev"
    refine rk_len (sv_a put_same) ?_
    walk_at "ev"
    refine ⟨f.length, fun k sl S => ∃ (cur : List Int) (y3 y4 : Option Dt), sl = [some (.i m), some (lI f), some (.a p), y3, y4] ∧ S p = some (.l (cur.map Dt.i)) ∧ cur.length = f.length ∧ cur = (List.range k).foldl (fun a k => splitK m k a) f,
      by rw [List.length_map], by omega, ⟨f, none, none, rfl, put_same, rfl, rfl⟩, fun k sl S hk => ?_, fun sl S => ?_⟩
    · rintro ⟨cur, y3, y4, rfl, hS, hl, e⟩
      refine wp_forM (α := Nat) tg_name (ei_rngD ?_)
      walk_at "ev"
      refine rk_len (sv_a hS) ?_
      walk_at "ev"
      refine ⟨(f.length : Int) - 2, (k : Int) - 1, by rw [List.length_map, hl], by omega, downTo (f.length - 1) k, fun i : Nat => Dt.i (i : Int), fun r sl S => ∃ (c2 : List Int) (y4 : Option Dt), sl = [some (.i m), some (lI f), some (.a p), some (.i (k : Int)), y4] ∧ S p = some (.l (c2.map Dt.i)) ∧ c2.length = f.length ∧
        r.foldl (fun l i => l.set i ((co l i + (k : Int) * co l (i + 1)) % m)) c2 = splitK m k cur, down_rg (by omega), ⟨cur, y4, rfl, hS, hl, by unfold splitK; rw [hl]⟩, fun i r sl S hi => ?_, fun sl S => ?_⟩
      · rintro ⟨c2, y4, rfl, hS, hl2, e2⟩
        refine ⟨_, rfl, ?_⟩
        have hi2 := down_mem hi
        refine wp_setL ?_
        walk_at "ev"
        refine rv_ix (sv_a hS) (atI_nn rfl (co_at (k := i) (by omega))) ?_
        walk_at "ev"
        refine rv_ix (sv_a hS) (atI_nn (j := i + 1) (by omega) (co_at (k := i + 1) (by omega))) ?_
        refine rv_mulS (.inl ⟨by omega, by omega⟩) ?_
        walk_at "ev"
        refine ⟨p, _, _, i, rfl, rfl, hS, ixN_nn rfl (by rw [List.length_map]; omega), ?_⟩
        rw [co_set]
        exact ⟨_, _, rfl, put_same, by rw [List.length_set]; exact hl2, e2⟩
      · rintro ⟨c2, y4, rfl, hS, hl2, e2⟩
        have e3 : c2 = splitK m k cur := e2
        refine ⟨c2, _, _, rfl, hS, hl2, ?_⟩
        rw [List.range_succ, List.foldl_append, ← e, e3]; rfl
    · rintro ⟨cur, y3, y4, rfl, hS, hl, e⟩
      refine wp_freeze (i := 2) rfl hS ?_
      walk_at "ev"
      rw [e]; rfl
def R_law_unsplit (ds : List Dt) (r : Dt) : Prop := ∃ (m : Int) (f : List Int), ds = [.i m, lI f] ∧ 0 < m ∧ f.length ≤ 400 ∧ r = lI (unsplitM m f)
theorem ok_law_unsplit (T : Txt K mg) : FnOk P w K mg base CX0 1 T.d_law_unsplit.f T.d_law_unsplit.fd ["_law_m", "_law_numbers"] (spP K R_law_unsplit) := by
  refine okP T.d_law_unsplit.F sc_law_unsplit (fun ds r h => ?_) (fun cdv A outer s H E hr => ⟨_, (pss_cons (ps_set (i := 2) sc_law_unsplit.nd rfl (.inl rfl) (pe_callTy (k_list K) (by rfl) T.b_list (by decide +kernel) (pa_cons (pv 1) pa_nil)))
      (pss_cons (ps_for PassesOwn.never rfl (pi_range3 (by rfl) T.b_range (pa_cons (pe_op op_sub (pe_callB (k_len K) (by rfl) T.b_len (by decide +kernel) (pa_cons (pv 2) pa_nil)) pe_int) (pa_cons (pe_un un_neg pe_int) (pa_cons (pe_un un_neg pe_int) pa_nil)))) (pg_name (i := 3) sc_law_unsplit.nd rfl (.inl rfl)) (pss_one (ps_for PassesOwn.never rfl (pi_range2 (by rfl) T.b_range (pa_cons (pv 3) (pa_cons (pe_op op_sub (pe_callB (k_len K) (by rfl) T.b_len (by decide +kernel) (pa_cons (pv 2) pa_nil)) pe_int) pa_nil))) (pg_name (i := 4) sc_law_unsplit.nd rfl (.inl rfl)) (pss_one (ps_asg (pe_op op_mod (pe_op op_sub (pe_ix (k_ix K) (pv 2) (pv 4) (fun _ _ => rfl)) (pe_op op_mulA (pv 3) (pe_ix (k_ix K) (pv 2) (pe_op (k_add K) (pv 4) pe_int) (fun _ _ => rfl)))) (pv 0)) (pg_sub (pv 2) (pv 4) set_list))))))
      (pss_one (ps_ret (pv 2))))), fun ds r h => ?_⟩)
  · obtain ⟨m, f, rfl, _⟩ := h; rfl
  · obtain ⟨m, f, rfl, hm, hf, rfl⟩ := h
    walk_at "ev"
    refine rk_list sv_l (.inr fun p hp => ?_)
    refine wp_seq (wp_forM (α := Nat) tg_name (ei_rngD ?_))
    walk_at "ev"
    refine rk_len (sv_a put_same) ?_
    walk_at "ev"
    refine ⟨(f.length : Int) - 1, -1, by rw [List.length_map], by omega, (List.range f.length).reverse, fun i : Nat => Dt.i (i : Int), fun r sl S => ∃ (cur : List Int) (y3 y4 : Option Dt), sl = [some (.i m), some (lI f), some (.a p), y3, y4] ∧ S p = some (.l (cur.map Dt.i)) ∧ cur.length = f.length ∧ r.foldl (fun a k => unsplitK m k a) cur = unsplitM m f,
      all_rg, ⟨f, none, none, rfl, put_same, rfl, rfl⟩, fun k r sl S hk => ?_, fun sl S => ?_⟩
    · rintro ⟨cur, y3, y4, rfl, hS, hl, e⟩
      refine ⟨_, rfl, ?_⟩
      have hk2 := List.mem_range.mp (List.mem_reverse.mp hk)
      rw [List.foldl_cons] at e
      refine wp_forM (α := Nat) tg_name (ei_rng2 ?_)
      walk_at "ev"
      refine rk_len (sv_a hS) ?_
      walk_at "ev"
      refine ⟨(k : Int), (f.length : Int) - 1, by rw [List.length_map, hl], by omega, (List.range (f.length - 1)).filter (fun i => decide (k ≤ i)), fun i : Nat => Dt.i (i : Int), fun r sl S => ∃ (c2 : List Int) (y4 : Option Dt), sl = [some (.i m), some (lI f), some (.a p), some (.i (k : Int)), y4] ∧ S p = some (.l (c2.map Dt.i)) ∧ c2.length = f.length ∧
        r.foldl (fun l i => l.set i ((co l i - (k : Int) * co l (i + 1)) % m)) c2 = unsplitK m k cur, up_rg (by omega), ⟨cur, y4, rfl, hS, hl, by unfold unsplitK; rw [hl]⟩, fun i r sl S hi => ?_, fun sl S => ?_⟩
      · rintro ⟨c2, y4, rfl, hS, hl2, e2⟩
        refine ⟨_, rfl, ?_⟩
        have hi2 := List.mem_range.mp (List.mem_filter.mp hi).1
        refine wp_setL ?_
        walk_at "ev"
        refine rv_ix (sv_a hS) (atI_nn rfl (co_at (k := i) (by omega))) ?_
        walk_at "ev"
        refine rv_ix (sv_a hS) (atI_nn (j := i + 1) (by omega) (co_at (k := i + 1) (by omega))) ?_
        refine rv_mulS (.inl ⟨by omega, by omega⟩) ?_
        walk_at "ev"
        refine ⟨p, _, _, i, rfl, rfl, hS, ixN_nn rfl (by rw [List.length_map]; omega), ?_⟩
        rw [co_set]
        exact ⟨_, _, rfl, put_same, by rw [List.length_set]; exact hl2, e2⟩
      · rintro ⟨c2, y4, rfl, hS, hl2, e2⟩
        have e3 : c2 = unsplitK m k cur := e2
        rw [← e3] at e
        exact ⟨c2, _, _, rfl, hS, hl2, e⟩
    · rintro ⟨cur, y3, y4, rfl, hS, hl, e⟩
      have e2 : cur = unsplitM m f := e
      refine wp_freeze (i := 2) rfl hS ?_
      walk_at "ev"
      rw [e2]; rfl
def R_law_wide (ds : List Dt) (r : Dt) : Prop := ∃ (m : Int) (A R : List (List Int)) (s : List Int × Int), ds = [.i m, tP A, tP R, enS s] ∧ 0 < m ∧ m ≤ 1000 ∧ Sz 8 A ∧ Sz 8 R ∧ s.1.length ≤ 4 ∧ Red m s.1 ∧ 0 ≤ s.2 ∧ s.2 < m ∧ r = tP (lwideM m A R s)
theorem ok_law_wide (T : Txt K mg) : FnOk P w K mg base CX0 3 T.d_law_wide.f T.d_law_wide.fd ["_law_m", "_law_kp", "_law_kr", "_law_turn"] (spP K R_law_wide) := by
  refine okP T.d_law_wide.F sc_law_wide (fun ds r h => ?_) (fun cdv A outer s H E hr => ⟨_, (pss_cons (ps_asg (pv 3) (k_gtup K (n := 2) rfl (pgs_cons (pg_name (i := 4) sc_law_wide.nd rfl (.inl rfl)) (pgs_cons (pg_name (i := 5) sc_law_wide.nd rfl (.inl rfl)) pgs_nil))))
      (pss_cons (ps_set (i := 6) sc_law_wide.nd rfl (.inl rfl) (pe_call (ok_law_add T) (hr.mono (by decide)) (by rfl) T.d_law_add.g T.d_law_add.F.kp T.d_law_add.b .nil pass0 (pa_cons (pv 0) (pa_cons (pv 2) (pa_cons (pe_tup (pa_cons (pe_tup (pa_cons pe_int pa_nil)) pa_nil)) (pa_cons (pv 5) pa_nil))))))
      (pss_cons (ps_set (i := 7) sc_law_wide.nd rfl (.inl rfl) (pv 1))
      (pss_cons (ps_set (i := 8) sc_law_wide.nd rfl (.inl rfl) (pe_tup (pa_cons (pe_tup (pa_cons pe_int pa_nil)) pa_nil)))
      (pss_cons (ps_for PassesOwn.never rfl (k_seq K (pv 4)) (pg_name (i := 9) sc_law_wide.nd rfl (.inl rfl)) (pss_cons (ps_set (i := 7) sc_law_wide.nd rfl (.inl rfl) (pe_call (ok_law_add T) (hr.mono (by decide)) (by rfl) T.d_law_add.g T.d_law_add.F.kp T.d_law_add.b .nil pass0 (pa_cons (pv 0) (pa_cons (pv 7) (pa_cons (pv 8) (pa_cons (pv 9) pa_nil))))))
      (pss_one (ps_set (i := 8) sc_law_wide.nd rfl (.inl rfl) (pe_call (ok_law_mul T) (hr.mono (by decide)) (by rfl) T.d_law_mul.g T.d_law_mul.F.kp T.d_law_mul.b .nil pass0 (pa_cons (pv 0) (pa_cons (pv 8) (pa_cons (pv 6) pa_nil))))))))
      (pss_one (ps_ret (pv 7)))))))), fun ds r h => ?_⟩)
  · obtain ⟨m, A, R, s, rfl, _⟩ := h; rfl
  · obtain ⟨m, A, R, s, rfl, hm, hm2, zA, zR, hs, hr, hk1, hk2, rfl⟩ := h
    refine wp_seq (wp_asgG (tg_tup (js := [4, 5]) rfl) ?_)
    walk_at "ev"
    refine ⟨_, ⟨rfl, rfl⟩, ?_⟩
    walk_at "ev"
    have z1 : Sz 8 (addM m R [[1]] s.2) := sz_add zR (sz_one (by decide))
    refine ⟨_, ⟨m, R, [[1]], s.2, rfl, hm, zR.mono (by decide), sz_one (by decide), by omega, by omega, rfl⟩, ?_⟩
    unfold lwideM
    generalize addM m R [[1]] s.2 = sh at z1
    walk_at "ev"
    refine wp_forM (α := Int) tg_name (ei_seq ?_)
    walk_at "ev"
    refine ⟨s.1.map Dt.i, .inl rfl, s.1, Dt.i, fun r sl S => ∃ (fd pw : List (List Int)) (y9 : Option Dt), sl = [some (.i m), some (tP A), some (tP R), some (enS s), some (tI s.1), some (.i s.2), some (tP sh), some (tP fd), some (tP pw), y9] ∧ r.length ≤ 4 ∧ Sz (8 * 2 ^ (4 - r.length)) fd ∧ Sz (8 * 2 ^ (4 - r.length)) pw ∧ RedR 1000 pw ∧
      wideGo m sh r fd pw = wideGo m sh s.1 A [[1]], rfl, ⟨A, [[1]], none, rfl, hs, zA.mono ?_, sz_one ?_, redR_one, rfl⟩, fun x r sl S hx => ?_, fun sl S => ?_⟩
    · have := Nat.one_le_two_pow (n := 4 - s.1.length)
      omega
    · have := Nat.one_le_two_pow (n := 4 - s.1.length)
      omega
    · rintro ⟨fd, pw, y9, rfl, hl, z2, z3, hr3, e⟩
      refine ⟨_, rfl, ?_⟩
      rw [List.length_cons] at hl z2 z3
      have hx2 := hr x hx
      have e2 : 8 * 2 ^ (4 - r.length) = 2 * (8 * 2 ^ (4 - (r.length + 1))) := by
        rw [show 4 - r.length = (4 - (r.length + 1)) + 1 by omega, Nat.pow_succ]
        omega
      have b1 : 8 * 2 ^ (4 - r.length) ≤ 128 := by
        have := Nat.pow_le_pow_right (n := 2) (by decide) (show 4 - r.length ≤ 4 by omega)
        omega
      have b2 : 1 ≤ 2 ^ (4 - (r.length + 1)) := Nat.one_le_two_pow
      generalize 2 ^ (4 - (r.length + 1)) = a at e2 b2 z2 z3
      walk_at "ev"
      refine ⟨_, ⟨m, fd, pw, x, rfl, hm, z2.mono (by omega), z3.mono (by omega), by omega, by omega, rfl⟩, ?_⟩
      walk_at "ev"
      refine ⟨_, ⟨m, pw, sh, rfl, hm, hr3, z3.mono (by omega), z1.mono (by decide), rfl⟩, ?_⟩
      refine ⟨_, _, _, rfl, by omega, ?_, ?_, (red_pol2 hm).mono (by omega), e⟩
      · rw [e2]; exact (sz_add z2 z3).mono (by omega)
      · rw [e2]; exact sz_lmul2 z3 z1 (by omega)
    · rintro ⟨fd, pw, y9, rfl, hl, z2, z3, hr3, e⟩
      walk_at "ev"
      rw [← e]; rfl
end
end Nf

set_option Elab.async false
set_option linter.all false
set_option maxRecDepth 100000
set_option maxHeartbeats 4000000
namespace Nf
open PySem PySem.Spec PyProof.Rows L2 RT RZ Mz
theorem en_inv {α : Type} {q : Nat × α} {r : List (Nat × α)} {i : Nat} {l : List α} (h : q :: r = en i l) : ∃ x l', l = x :: l' ∧ q = (i, x) ∧ r = en (i + 1) l' := by
  cases l with
  | nil => cases h
  | cons x l =>
    unfold en at h
    injection h with h1 h2
    exact ⟨x, l, rfl, h1, h2⟩
theorem en_nil_inv {α : Type} {i : Nat} {l : List α} (h : [] = en i l) : l = [] := by
  cases l with
  | nil => rfl
  | cons x l => unfold en at h; cases h
theorem pow8 {i : Nat} (h : i ≤ 8) : 8 * 2 ^ i ≤ 2048 := by
  have := Nat.pow_le_pow_right (n := 2) (by decide) h
  omega
theorem putO_cons {m : Int} {U V : List (List Int)} {i : Nat} {row : List Int} {r fd pw : List (List Int)} : putO m U V i (row :: r) fd pw = putO m U V (i + 1) r (addM m fd (lmulM m (putI m V 0 row [] [[1]]) (if 0 < i then lmulM m pw U else pw)) 1) (if 0 < i then lmulM m pw U else pw) := by rw [putO]
theorem putI_cons {m : Int} {V : List (List Int)} {j : Nat} {one : Int} {r : List Int} {inn ot : List (List Int)} : putI m V j (one :: r) inn ot = putI m V (j + 1) r (addM m inn (if 0 < j then lmulM m ot V else ot) one) (if 0 < j then lmulM m ot V else ot) := by rw [putI]
section
variable {P : Program} {w : World} {K : PySem.W.Frag} {mg : Str → Option Value} {base : Heap}
def R_law_put (ds : List Dt) (r : Dt) : Prop := ∃ (m : Int) (A U V : List (List Int)), ds = [.i m, tP A, tP U, tP V] ∧ 0 < m ∧ m ≤ 1000 ∧ RedR 1000 A ∧ Sz 8 A ∧ Sz 8 U ∧ Sz 8 V ∧ r = tP (putM m A U V)
theorem ok_law_put (T : Txt K mg) : FnOk P w K mg base CX0 3 T.d_law_put.f T.d_law_put.fd ["_law_m", "_law_kp", "_law_ku", "_law_kv"] (spP K R_law_put) := by
  refine okP T.d_law_put.F sc_law_put (fun ds r h => ?_) (fun cdv A outer s H E hr => ⟨_, (pss_cons (ps_set (i := 4) sc_law_put.nd rfl (.inl rfl) (pe_tup pa_nil))
      (pss_cons (ps_set (i := 5) sc_law_put.nd rfl (.inl rfl) (pe_tup (pa_cons (pe_tup (pa_cons pe_int pa_nil)) pa_nil)))
      (pss_cons (ps_for PassesOwn.never rfl (k_enum K (by rfl) T.b_enumerate (pa_cons (pv 1) pa_nil)) (k_gtup K (n := 2) rfl (pgs_cons (pg_name (i := 6) sc_law_put.nd rfl (.inl rfl)) (pgs_cons (pg_name (i := 7) sc_law_put.nd rfl (.inl rfl)) pgs_nil))) (pss_cons (ps_set (i := 5) sc_law_put.nd rfl (.inl rfl) (pe_ifExp (pt_cmpR op_gt (pv 6) pe_int (nomark _)) (pe_call (ok_law_mul T) (hr.mono (by decide)) (by rfl) T.d_law_mul.g T.d_law_mul.F.kp T.d_law_mul.b .nil pass0 (pa_cons (pv 0) (pa_cons (pv 5) (pa_cons (pv 2) pa_nil)))) (pv 5)))
      (pss_cons (ps_set (i := 8) sc_law_put.nd rfl (.inl rfl) (pe_tup pa_nil))
      (pss_cons (ps_set (i := 9) sc_law_put.nd rfl (.inl rfl) (pe_tup (pa_cons (pe_tup (pa_cons pe_int pa_nil)) pa_nil)))
      (pss_cons (ps_for PassesOwn.never rfl (k_enum K (by rfl) T.b_enumerate (pa_cons (pv 7) pa_nil)) (k_gtup K (n := 2) rfl (pgs_cons (pg_name (i := 10) sc_law_put.nd rfl (.inl rfl)) (pgs_cons (pg_name (i := 11) sc_law_put.nd rfl (.inl rfl)) pgs_nil))) (pss_cons (ps_set (i := 9) sc_law_put.nd rfl (.inl rfl) (pe_ifExp (pt_cmpR op_gt (pv 10) pe_int (nomark _)) (pe_call (ok_law_mul T) (hr.mono (by decide)) (by rfl) T.d_law_mul.g T.d_law_mul.F.kp T.d_law_mul.b .nil pass0 (pa_cons (pv 0) (pa_cons (pv 9) (pa_cons (pv 3) pa_nil)))) (pv 9)))
      (pss_one (ps_set (i := 8) sc_law_put.nd rfl (.inl rfl) (pe_call (ok_law_add T) (hr.mono (by decide)) (by rfl) T.d_law_add.g T.d_law_add.F.kp T.d_law_add.b .nil pass0 (pa_cons (pv 0) (pa_cons (pv 8) (pa_cons (pv 9) (pa_cons (pv 11) pa_nil)))))))))
      (pss_one (ps_set (i := 4) sc_law_put.nd rfl (.inl rfl) (pe_call (ok_law_add T) (hr.mono (by decide)) (by rfl) T.d_law_add.g T.d_law_add.F.kp T.d_law_add.b .nil pass0 (pa_cons (pv 0) (pa_cons (pv 4) (pa_cons (pe_call (ok_law_mul T) (hr.mono (by decide)) (by rfl) T.d_law_mul.g T.d_law_mul.F.kp T.d_law_mul.b .nil pass0 (pa_cons (pv 0) (pa_cons (pv 8) (pa_cons (pv 5) pa_nil)))) (pa_cons pe_int pa_nil))))))))))))
      (pss_one (ps_ret (pv 4)))))), fun ds r h => ?_⟩)
  · obtain ⟨m, A, U, V, rfl, _⟩ := h; rfl
  · obtain ⟨m, A, U, V, rfl, hm, hm2, hR, zA, zU, zV, rfl⟩ := h
    walk_at "ev"
    refine wp_forM (α := Nat × List Int) (tg_tup (js := [6, 7]) rfl) (ei_enum ?_)
    walk_at "ev"
    refine ⟨A.map tI, .inr rfl, en 0 A, eQ, fun r sl S => ∃ (i : Nat) (rest fd pw : List (List Int)) (y6 y7 y8 y9 y10 y11 : Option Dt), sl = [some (.i m), some (tP A), some (tP U), some (tP V), some (tP fd), some (tP pw), y6, y7, y8, y9, y10, y11] ∧
      r = en i rest ∧ i + rest.length ≤ 8 ∧ Sz 4096 fd ∧ Sz (8 * 2 ^ i) pw ∧ RedR 1000 pw ∧ (∀ row ∈ rest, row.length ≤ 8 ∧ Red 1000 row) ∧ putO m U V i rest fd pw = putM m A U V, enD_map,
      ⟨0, A, [], [[1]], none, none, none, none, none, none, rfl, rfl, by have := zA.1; omega, sz_nil, sz_one (by decide), redR_one, fun row hr => ⟨zA.2 row hr, hR row hr⟩, rfl⟩, fun q r sl S hq => ?_, fun sl S => ?_⟩
    · rintro ⟨i, rest, fd, pw, y6, y7, y8, y9, y10, y11, rfl, hr, hi, zfd, zpw, hpw, hrest, e⟩
      obtain ⟨row, rest, rfl, rfl, rfl⟩ := en_inv hr
      rw [List.length_cons] at hi
      have hrow := hrest row List.mem_cons_self
      have h8 := pow8 (show i + 1 ≤ 8 by omega)
      have h8b : 8 * 2 ^ (i + 1) = 2 * (8 * 2 ^ i) := by rw [Nat.pow_succ]; omega
      have h8c : 1 ≤ 2 ^ i := Nat.one_le_two_pow
      refine ⟨_, ⟨rfl, rfl⟩, ?_⟩
      rw [putO_cons] at e
      refine wp_seq (wp_asg (Ev.mono (P' := fun d S' => d = tP (if 0 < i then lmulM m pw U else pw) ∧ S' = S) ?_ ?_))
      · walk_at "ev"
        refine dd2 (fun h => ?_) (fun h => ?_)
        · walk_at "ev"
          exact ⟨_, ⟨m, pw, U, rfl, hm, hpw, zpw.mono (by omega), zU.mono (by decide), rfl⟩, by rw [if_pos (by omega)], rfl⟩
        · walk_at "ev"
          exact ⟨by rw [if_neg (by omega)], rfl⟩
      rintro d S' ⟨rfl, rfl⟩
      have zp2 : Sz (8 * 2 ^ (i + 1)) (if 0 < i then lmulM m pw U else pw) := by
        split
        · rw [h8b]; exact sz_lmul2 zpw zU (by omega)
        · exact zpw.mono (by omega)
      have hp2 : RedR 1000 (if 0 < i then lmulM m pw U else pw) := by
        split
        · exact (red_pol2 hm).mono (by omega)
        · exact hpw
      generalize (if 0 < i then lmulM m pw U else pw) = pw2 at e zp2 hp2
      walk_at "ev"
      refine wp_forM (α := Nat × Int) (tg_tup (js := [10, 11]) rfl) (ei_enum ?_)
      walk_at "ev"
      refine ⟨row.map Dt.i, .inr rfl, en 0 row, eI, fun r sl S => ∃ (j : Nat) (r2 : List Int) (inn ot : List (List Int)) (y10 y11 : Option Dt), sl = [some (.i m), some (tP A), some (tP U), some (tP V), some (tP fd), some (tP pw2), some (.i (i : Int)), some (tI row), some (tP inn), some (tP ot), y10, y11] ∧
        r = en j r2 ∧ j + r2.length ≤ 8 ∧ Sz 2048 inn ∧ RedR 1000 inn ∧ Sz (8 * 2 ^ j) ot ∧ RedR 1000 ot ∧ Red 1000 r2 ∧ putI m V j r2 inn ot = putI m V 0 row [] [[1]], enD_map,
        ⟨0, row, [], [[1]], y10, y11, rfl, rfl, by omega, sz_nil, redR_nil, sz_one (by decide), redR_one, hrow.2, rfl⟩, fun q r sl S hq => ?_, fun sl S => ?_⟩
      · rintro ⟨j, r2, inn, ot, y10, y11, rfl, hr, hj, zin, hin, zot, hot, hr2, e2⟩
        obtain ⟨one, r2, rfl, rfl, rfl⟩ := en_inv hr
        rw [List.length_cons] at hj
        have hone := hr2 one List.mem_cons_self
        have g8 := pow8 (show j + 1 ≤ 8 by omega)
        have g8b : 8 * 2 ^ (j + 1) = 2 * (8 * 2 ^ j) := by rw [Nat.pow_succ]; omega
        have g8c : 1 ≤ 2 ^ j := Nat.one_le_two_pow
        refine ⟨_, ⟨rfl, rfl⟩, ?_⟩
        rw [putI_cons] at e2
        refine wp_seq (wp_asg (Ev.mono (P' := fun d S' => d = tP (if 0 < j then lmulM m ot V else ot) ∧ S' = S) ?_ ?_))
        · walk_at "ev"
          refine dd2 (fun h => ?_) (fun h => ?_)
          · walk_at "ev"
            exact ⟨_, ⟨m, ot, V, rfl, hm, hot, zot.mono (by omega), zV.mono (by decide), rfl⟩, by rw [if_pos (by omega)], rfl⟩
          · walk_at "ev"
            exact ⟨by rw [if_neg (by omega)], rfl⟩
        rintro d S' ⟨rfl, rfl⟩
        have zo2 : Sz (8 * 2 ^ (j + 1)) (if 0 < j then lmulM m ot V else ot) := by
          split
          · rw [g8b]; exact sz_lmul2 zot zV (by omega)
          · exact zot.mono (by omega)
        have ho2 : RedR 1000 (if 0 < j then lmulM m ot V else ot) := by
          split
          · exact (red_pol2 hm).mono (by omega)
          · exact hot
        generalize (if 0 < j then lmulM m ot V else ot) = ot2 at e2 zo2 ho2
        walk_at "ev"
        refine ⟨_, ⟨m, inn, ot2, one, rfl, hm, zin.mono (by decide), zo2.mono (by omega), by omega, by omega, rfl⟩, ?_⟩
        exact ⟨j + 1, r2, _, ot2, _, _, rfl, rfl, by omega, sz_add zin (zo2.mono (by omega)), (red_pol2 hm).mono (by omega), zo2, ho2, fun c hc => hr2 c (List.mem_cons_of_mem _ hc), e2⟩
      · rintro ⟨j, r2, inn, ot, y10, y11, rfl, hr, hj, zin, hin, zot, hot, hr2, e2⟩
        have h2 := en_nil_inv hr
        subst h2
        have e3 : inn = putI m V 0 row [] [[1]] := e2
        rw [← e3] at e
        walk_at "ev"
        refine ⟨_, ⟨m, inn, pw2, rfl, hm, hin, zin.mono (by decide), zp2.mono (by omega), rfl⟩, ?_⟩
        have zm : Sz 4096 (lmulM m inn pw2) := (sz_lmul2 (m := m) zin (zp2.mono (by omega)) (Nat.le_refl 2048)).mono (by decide)
        walk_at "ev"
        refine ⟨_, ⟨m, fd, _, 1, rfl, hm, zfd.mono (by decide), zm.mono (by decide), by decide, by decide, rfl⟩, ?_⟩
        exact ⟨i + 1, rest, _, pw2, _, _, _, _, _, _, rfl, rfl, by omega, sz_add zfd zm, zp2, hp2, fun row hr => hrest row (List.mem_cons_of_mem _ hr), e⟩
    · rintro ⟨i, rest, fd, pw, y6, y7, y8, y9, y10, y11, rfl, hr, hi, zfd, zpw, hpw, hrest, e⟩
      have h2 := en_nil_inv hr
      subst h2
      walk_at "ev"
      have e3 : fd = putM m A U V := e
      rw [e3]
def R_law_parts (ds : List Dt) (r : Dt) : Prop := ∃ (m : Int) (A : List (List Int)), ds = [.i m, tP A] ∧ 0 < m ∧ Sz 400 A ∧ r = lL (lpartsM m A)
theorem ok_law_parts (T : Txt K mg) : FnOk P w K mg base CX0 2 T.d_law_parts.f T.d_law_parts.fd ["_law_m", "_law_kp"] (spP K R_law_parts) := by
  refine okP T.d_law_parts.F sc_law_parts (fun ds r h => ?_) (fun cdv A outer s H E hr => ⟨_, (pss_cons (ps_set (i := 2) sc_law_parts.nd rfl (.inr rfl) (pe_callBK (k_maxD K) (by rfl) T.b_max (by decide +kernel) (pa_cons (pe_lc (own := [("_law_row", 5)]) rfl sc_law_parts.nd (k_seq K (pv 1)) (blkOk_by (by kernel_rfl)) (fun _ _ _ _ _ => (pg_name (i := 5) sc_law_parts.nd rfl (.inl rfl))) (fun _ _ _ _ _ => pts_nil) (fun _ _ _ _ _ => (pe_callB (k_len K) (by rfl) T.b_len (by decide +kernel) (pa_cons (pv 5) pa_nil)))) pa_nil) (pk_cons pe_int pk_nil)))
      (pss_cons (ps_set (i := 3) sc_law_parts.nd rfl (.inr rfl) (pe_lc (own := [("_law_row", 5)]) rfl sc_law_parts.nd (k_seq K (pv 1)) (blkOk_by (by kernel_rfl)) (fun _ _ _ _ _ => (pg_name (i := 5) sc_law_parts.nd rfl (.inl rfl))) (fun _ _ _ _ _ => pts_nil) (fun _ _ _ _ _ => (pe_call (ok_law_split T) (hr.mono (by decide)) (by rfl) T.d_law_split.g T.d_law_split.F.kp T.d_law_split.b .nil pass0 (pa_cons (pv 0) (pa_cons (pe_op (k_add K) (pe_callTy (k_list K) (by rfl) T.b_list (by decide +kernel) (pa_cons (pv 5) pa_nil)) (pe_op op_mulA (pe_lst (pa_cons pe_int pa_nil)) (pe_op op_sub (pv 2) (pe_callB (k_len K) (by rfl) T.b_len (by decide +kernel) (pa_cons (pv 5) pa_nil))))) pa_nil))))))
      (pss_cons (ps_set (i := 4) sc_law_parts.nd rfl (.inr rfl) (pe_lc (own := [("_law_j", 6)]) rfl sc_law_parts.nd (pi_range1 (by rfl) T.b_range (pa_cons (pv 2) pa_nil)) (blkOk_by (by kernel_rfl)) (fun _ _ _ _ _ => (pg_name (i := 6) sc_law_parts.nd rfl (.inr rfl))) (fun _ _ _ _ _ => pts_nil) (fun _ _ _ _ _ => (pe_call (ok_law_split T) (hr.mono (by decide)) (by rfl) T.d_law_split.g T.d_law_split.F.kp T.d_law_split.b .nil pass0 (pa_cons (pv 0) (pa_cons (pe_lc (own := [("_law_row", 5)]) rfl sc_law_parts.nd (k_seq K (pv 3)) (blkOk_by (by kernel_rfl)) (fun _ _ _ _ _ => (pg_name (i := 5) sc_law_parts.nd rfl (.inl rfl))) (fun _ _ _ _ _ => pts_nil) (fun _ _ _ _ _ => (pe_ix (k_ix K) (pv 5) (pv 6) (fun _ _ => rfl)))) pa_nil))))))
      (pss_one (ps_ret (pe_lc (own := [("_law_i", 8)]) rfl sc_law_parts.nd (pi_range1 (by rfl) T.b_range (pa_cons (pe_callB (k_len K) (by rfl) T.b_len (by decide +kernel) (pa_cons (pv 1) pa_nil)) pa_nil)) (blkOk_by (by kernel_rfl)) (fun _ _ _ _ _ => (pg_name (i := 8) sc_law_parts.nd rfl (.inr rfl))) (fun _ _ _ _ _ => pts_nil) (fun _ _ _ _ _ => (pe_lc (own := [("_law_column", 7)]) rfl sc_law_parts.nd (k_seq K (pv 4)) (blkOk_by (by kernel_rfl)) (fun _ _ _ _ _ => (pg_name (i := 7) sc_law_parts.nd rfl (.inl rfl))) (fun _ _ _ _ _ => pts_nil) (fun _ _ _ _ _ => (pe_ix (k_ix K) (pv 7) (pv 8) (fun _ _ => rfl))))))))))), fun ds r h => ?_⟩)
  · obtain ⟨m, A, rfl, _⟩ := h; rfl
  · obtain ⟨m, A, rfl, hm, hA, rfl⟩ := h
    have hA1 := hA.1
    have hw := wide_le hA
    walk_at "ev"
    refine ev_maxD ?_
    walk_at "ev"
    refine ev_lc (α := List Int) tg_name (by simp) (ei_seq ?_)
    walk_at "ev"
    refine ⟨A.map tI, .inl rfl, A, tI, fun x => .i (x.length : Int), rfl, by omega, fun x hx => ⟨_, rfl, ?_⟩, .inl ?_⟩
    · walk_at "ev"
      rw [List.length_map]
      exact ⟨rfl, rfl⟩
    walk_at "ev"
    refine ⟨_, rfl, ?_⟩
    walk_at "ev"
    refine ⟨A.map List.length, rfl, .inl (by rw [List.map_map]; rfl), ?_⟩
    rw [show mx (A.map List.length) = wide A from rfl]
    refine wp_seq (wp_asg ?_)
    refine ev_lcI (α := List Int) tg_name (by simp) (ei_seq ?_)
    walk_at "ev"
    refine ⟨A.map tI, .inl rfl, Kp nos, A, tI, fun row => lI (splitM m (pad (wide A) row)), rfl, by omega, Kp.refl _, fun row hrow S2 hS2 => ⟨_, rfl, ?_⟩, fun S2 hS2 => .inl ?_⟩
    · have hrl := wide_mem hrow
      walk_at "ev"
      refine rk_list sv_t (.inr fun p hp => ?_)
      walk_at "ev"
      refine ev_lstA ?_
      walk_at "ev"
      intro p0 hp0
      walk_at "ev"
      refine rv_mulN (ds := [.i 0]) (n := wide A - row.length) ⟨_, rfl, put_same⟩ (by rw [List.length_map]; omega) (by simp; omega) (by omega) (.inr fun p3 hp3 => ?_)
      rw [rep_one, rep_ints]
      refine rv_addL ⟨p, rfl, put_keep (put_keep put_same hp0) hp3⟩ ⟨p3, rfl, put_same⟩ (by simp; omega) (.inl ?_)
      walk_at "ev"
      refine ⟨_, ⟨m, pad (wide A) row, by unfold pad lI; rw [List.map_append], hm, by rw [pad_len hrl]; exact hw, rfl⟩, rfl, ?_⟩
      exact ((hS2.put hp).put hp0).put hp3
    · generalize hR : A.map (fun row => splitM m (pad (wide A) row)) = R
      have e1 : A.map (fun row => lI (splitM m (pad (wide A) row))) = R.map lI := by rw [← hR, List.map_map]; rfl
      rw [e1]
      have hRl : R.length = A.length := by rw [← hR, List.length_map]
      have hRw : ∀ row ∈ R, row.length = wide A := fun row h => by
        rw [← hR] at h
        obtain ⟨x, hx, rfl⟩ := List.mem_map.mp h
        rw [splitM_len, pad_len (wide_mem hx)]
      walk_at "ev"
      refine ev_lcN (by simp) ?_
      walk_at "ev"
      refine ⟨wide A, fun j => lI (splitM m (R.map fun row => co row j)), rfl, by omega, fun j hj => ?_, .inl ?_⟩
      · walk_at "ev"
        refine ev_lc (α := List Int) tg_name (by simp) (ei_seq ?_)
        walk_at "ev"
        refine ⟨R.map lI, .inr rfl, R, lI, fun row => .i (co row j), rfl, by omega, fun row hrow => ⟨_, rfl, ?_⟩, .inl ?_⟩
        · walk_at "ev"
          refine rv_ix sv_l (atI_nn rfl (co_at (by rw [hRw row hrow]; exact hj))) ?_
          exact ⟨rfl, rfl⟩
        · walk_at "ev"
          exact ⟨_, ⟨m, R.map fun row => co row j, by unfold lI; rw [List.map_map]; rfl, hm, by rw [List.length_map]; omega, rfl⟩, rfl, rfl⟩
      · generalize hC : (List.range (wide A)).map (fun j => splitM m (R.map fun row => co row j)) = C
        have e2 : (List.range (wide A)).map (fun j => lI (splitM m (R.map fun row => co row j))) = C.map lI := by rw [← hC, List.map_map]; rfl
        rw [e2]
        have hCl : C.length = wide A := by rw [← hC, List.length_map, List.length_range]
        have hCw : ∀ col ∈ C, col.length = A.length := fun col h => by
          rw [← hC] at h
          obtain ⟨x, hx, rfl⟩ := List.mem_map.mp h
          rw [splitM_len, List.length_map, hRl]
        walk_at "ev"
        refine ev_lcN (by simp) ?_
        walk_at "ev"
        refine ⟨A.length, fun i => lI (C.map fun col => co col i), by rw [List.length_map], by omega, fun i hi => ?_, .inl ?_⟩
        · refine ev_lc (α := List Int) tg_name (by simp) (ei_seq ?_)
          walk_at "ev"
          refine ⟨C.map lI, .inr rfl, C, lI, fun col => .i (co col i), rfl, by omega, fun col hcol => ⟨_, rfl, ?_⟩, .inl ?_⟩
          · walk_at "ev"
            refine rv_ix sv_l (atI_nn rfl (co_at (by rw [hCw col hcol]; exact hi))) ?_
            exact ⟨rfl, rfl⟩
          · exact ⟨by show _ = Dt.l _; rw [List.map_map]; rfl, rfl⟩
        · subst hC
          subst hR
          show _ = Dt.l (((List.range A.length).map fun i => ((List.range (wide A)).map fun j => splitM m ((A.map fun row => splitM m (pad (wide A) row)).map fun row => co row j)).map fun col => co col i).map lI)
          rw [List.map_map]; rfl
def R_law_sum (ds : List Dt) (r : Dt) : Prop := ∃ (m : Int) (A : List (List Int)), ds = [.i m, lL A] ∧ 0 < m ∧ Sz 400 A ∧ r = tP (sumM m A)
theorem ok_law_sum (T : Txt K mg) : FnOk P w K mg base CX0 2 T.d_law_sum.f T.d_law_sum.fd ["_law_m", "_law_table"] (spP K R_law_sum) := by
  refine okP T.d_law_sum.F sc_law_sum (fun ds r h => ?_) (fun cdv A outer s H E hr => ⟨_, (pss_cons (ps_set (i := 2) sc_law_sum.nd rfl (.inr rfl) (pe_callBK (k_maxD K) (by rfl) T.b_max (by decide +kernel) (pa_cons (pe_lc (own := [("_law_row", 5)]) rfl sc_law_sum.nd (k_seq K (pv 1)) (blkOk_by (by kernel_rfl)) (fun _ _ _ _ _ => (pg_name (i := 5) sc_law_sum.nd rfl (.inl rfl))) (fun _ _ _ _ _ => pts_nil) (fun _ _ _ _ _ => (pe_callB (k_len K) (by rfl) T.b_len (by decide +kernel) (pa_cons (pv 5) pa_nil)))) pa_nil) (pk_cons pe_int pk_nil)))
      (pss_cons (ps_set (i := 3) sc_law_sum.nd rfl (.inr rfl) (pe_lc (own := [("_law_row", 5)]) rfl sc_law_sum.nd (k_seq K (pv 1)) (blkOk_by (by kernel_rfl)) (fun _ _ _ _ _ => (pg_name (i := 5) sc_law_sum.nd rfl (.inl rfl))) (fun _ _ _ _ _ => pts_nil) (fun _ _ _ _ _ => (pe_call (ok_law_unsplit T) (hr.mono (by decide)) (by rfl) T.d_law_unsplit.g T.d_law_unsplit.F.kp T.d_law_unsplit.b .nil pass0 (pa_cons (pv 0) (pa_cons (pe_op (k_add K) (pe_callTy (k_list K) (by rfl) T.b_list (by decide +kernel) (pa_cons (pv 5) pa_nil)) (pe_op op_mulA (pe_lst (pa_cons pe_int pa_nil)) (pe_op op_sub (pv 2) (pe_callB (k_len K) (by rfl) T.b_len (by decide +kernel) (pa_cons (pv 5) pa_nil))))) pa_nil))))))
      (pss_cons (ps_set (i := 4) sc_law_sum.nd rfl (.inr rfl) (pe_lc (own := [("_law_j", 6)]) rfl sc_law_sum.nd (pi_range1 (by rfl) T.b_range (pa_cons (pv 2) pa_nil)) (blkOk_by (by kernel_rfl)) (fun _ _ _ _ _ => (pg_name (i := 6) sc_law_sum.nd rfl (.inr rfl))) (fun _ _ _ _ _ => pts_nil) (fun _ _ _ _ _ => (pe_call (ok_law_unsplit T) (hr.mono (by decide)) (by rfl) T.d_law_unsplit.g T.d_law_unsplit.F.kp T.d_law_unsplit.b .nil pass0 (pa_cons (pv 0) (pa_cons (pe_lc (own := [("_law_row", 5)]) rfl sc_law_sum.nd (k_seq K (pv 3)) (blkOk_by (by kernel_rfl)) (fun _ _ _ _ _ => (pg_name (i := 5) sc_law_sum.nd rfl (.inl rfl))) (fun _ _ _ _ _ => pts_nil) (fun _ _ _ _ _ => (pe_ix (k_ix K) (pv 5) (pv 6) (fun _ _ => rfl)))) pa_nil))))))
      (pss_one (ps_ret (pe_call (ok_law_trim T) (hr.mono (by decide)) (by rfl) T.d_law_trim.g T.d_law_trim.F.kp T.d_law_trim.b .nil pass0 (pa_cons (pv 0) (pa_cons (pe_lc (own := [("_law_i", 8)]) rfl sc_law_sum.nd (pi_range1 (by rfl) T.b_range (pa_cons (pe_callB (k_len K) (by rfl) T.b_len (by decide +kernel) (pa_cons (pv 1) pa_nil)) pa_nil)) (blkOk_by (by kernel_rfl)) (fun _ _ _ _ _ => (pg_name (i := 8) sc_law_sum.nd rfl (.inr rfl))) (fun _ _ _ _ _ => pts_nil) (fun _ _ _ _ _ => (pe_lc (own := [("_law_column", 7)]) rfl sc_law_sum.nd (k_seq K (pv 4)) (blkOk_by (by kernel_rfl)) (fun _ _ _ _ _ => (pg_name (i := 7) sc_law_sum.nd rfl (.inl rfl))) (fun _ _ _ _ _ => pts_nil) (fun _ _ _ _ _ => (pe_ix (k_ix K) (pv 7) (pv 8) (fun _ _ => rfl)))))) pa_nil)))))))), fun ds r h => ?_⟩)
  · obtain ⟨m, A, rfl, _⟩ := h; rfl
  · obtain ⟨m, A, rfl, hm, hA, rfl⟩ := h
    have hA1 := hA.1
    have hw := wide_le hA
    walk_at "ev"
    refine ev_maxD ?_
    walk_at "ev"
    refine ev_lc (α := List Int) tg_name (by simp) (ei_seq ?_)
    walk_at "ev"
    refine ⟨A.map lI, .inr rfl, A, lI, fun x => .i (x.length : Int), rfl, by omega, fun x hx => ⟨_, rfl, ?_⟩, .inl ?_⟩
    · walk_at "ev"
      rw [List.length_map]
      exact ⟨rfl, rfl⟩
    walk_at "ev"
    refine ⟨_, rfl, ?_⟩
    walk_at "ev"
    refine ⟨A.map List.length, rfl, .inl (by rw [List.map_map]; rfl), ?_⟩
    rw [show mx (A.map List.length) = wide A from rfl]
    refine wp_seq (wp_asg ?_)
    refine ev_lcI (α := List Int) tg_name (by simp) (ei_seq ?_)
    walk_at "ev"
    refine ⟨A.map lI, .inr rfl, Kp nos, A, lI, fun row => lI (unsplitM m (pad (wide A) row)), rfl, by omega, Kp.refl _, fun row hrow S2 hS2 => ⟨_, rfl, ?_⟩, fun S2 hS2 => .inl ?_⟩
    · have hrl := wide_mem hrow
      walk_at "ev"
      refine rk_list sv_l (.inr fun p hp => ?_)
      walk_at "ev"
      refine ev_lstA ?_
      walk_at "ev"
      intro p0 hp0
      walk_at "ev"
      refine rv_mulN (ds := [.i 0]) (n := wide A - row.length) ⟨_, rfl, put_same⟩ (by rw [List.length_map]; omega) (by simp; omega) (by omega) (.inr fun p3 hp3 => ?_)
      rw [rep_one, rep_ints]
      refine rv_addL ⟨p, rfl, put_keep (put_keep put_same hp0) hp3⟩ ⟨p3, rfl, put_same⟩ (by simp; omega) (.inl ?_)
      walk_at "ev"
      refine ⟨_, ⟨m, pad (wide A) row, by unfold pad lI; rw [List.map_append], hm, by rw [pad_len hrl]; exact hw, rfl⟩, rfl, ?_⟩
      exact ((hS2.put hp).put hp0).put hp3
    · generalize hR : A.map (fun row => unsplitM m (pad (wide A) row)) = R
      have e1 : A.map (fun row => lI (unsplitM m (pad (wide A) row))) = R.map lI := by rw [← hR, List.map_map]; rfl
      rw [e1]
      have hRl : R.length = A.length := by rw [← hR, List.length_map]
      have hRw : ∀ row ∈ R, row.length = wide A := fun row h => by
        rw [← hR] at h
        obtain ⟨x, hx, rfl⟩ := List.mem_map.mp h
        rw [unsplitM_len, pad_len (wide_mem hx)]
      walk_at "ev"
      refine ev_lcN (by simp) ?_
      walk_at "ev"
      refine ⟨wide A, fun j => lI (unsplitM m (R.map fun row => co row j)), rfl, by omega, fun j hj => ?_, .inl ?_⟩
      · walk_at "ev"
        refine ev_lc (α := List Int) tg_name (by simp) (ei_seq ?_)
        walk_at "ev"
        refine ⟨R.map lI, .inr rfl, R, lI, fun row => .i (co row j), rfl, by omega, fun row hrow => ⟨_, rfl, ?_⟩, .inl ?_⟩
        · walk_at "ev"
          refine rv_ix sv_l (atI_nn rfl (co_at (by rw [hRw row hrow]; exact hj))) ?_
          exact ⟨rfl, rfl⟩
        · walk_at "ev"
          exact ⟨_, ⟨m, R.map fun row => co row j, by unfold lI; rw [List.map_map]; rfl, hm, by rw [List.length_map]; omega, rfl⟩, rfl, rfl⟩
      · generalize hC : (List.range (wide A)).map (fun j => unsplitM m (R.map fun row => co row j)) = C
        have e2 : (List.range (wide A)).map (fun j => lI (unsplitM m (R.map fun row => co row j))) = C.map lI := by rw [← hC, List.map_map]; rfl
        rw [e2]
        have hCl : C.length = wide A := by rw [← hC, List.length_map, List.length_range]
        have hCw : ∀ col ∈ C, col.length = A.length := fun col h => by
          rw [← hC] at h
          obtain ⟨x, hx, rfl⟩ := List.mem_map.mp h
          rw [unsplitM_len, List.length_map, hRl]
        walk_at "ev"
        refine ev_lcN (by simp) ?_
        walk_at "ev"
        refine ⟨A.length, fun i => lI (C.map fun col => co col i), by rw [List.length_map], by omega, fun i hi => ?_, .inl ?_⟩
        · refine ev_lc (α := List Int) tg_name (by simp) (ei_seq ?_)
          walk_at "ev"
          refine ⟨C.map lI, .inr rfl, C, lI, fun col => .i (co col i), rfl, by omega, fun col hcol => ⟨_, rfl, ?_⟩, .inl ?_⟩
          · walk_at "ev"
            refine rv_ix sv_l (atI_nn rfl (co_at (by rw [hCw col hcol]; exact hi))) ?_
            exact ⟨rfl, rfl⟩
          · exact ⟨by show _ = Dt.l _; rw [List.map_map]; rfl, rfl⟩
        · subst hC
          subst hR
          walk_at "ev"
          refine ⟨_, ⟨m, tabT (unsplitM m) A, ?_, hm, (sz_tabT hA).mono (by decide), rfl⟩, rfl⟩
          show _ = [Dt.i m, Dt.l (((List.range A.length).map fun i => ((List.range (wide A)).map fun j => unsplitM m ((A.map fun row => unsplitM m (pad (wide A) row)).map fun row => co row j)).map fun col => co col i).map lI)]
          rw [List.map_map (g := lI)]; rfl
def R_law_least (ds : List Dt) (r : Dt) : Prop := ∃ (m : Int) (A : List (List Int)), ds = [.i m, tP A] ∧ 0 < m ∧ m ≤ 1000 ∧ Sz 400 A ∧ r = tP (lleastM m A)
theorem ok_law_least (T : Txt K mg) : FnOk P w K mg base CX0 3 T.d_law_least.f T.d_law_least.fd ["_law_m", "_law_kp"] (spP K R_law_least) := by
  refine okP T.d_law_least.F sc_law_least (fun ds r h => ?_) (fun cdv A outer s H E hr => ⟨_, (pss_cons (ps_set (i := 2) sc_law_least.nd rfl (.inr rfl) (pe_call (ok_law_parts T) (hr.mono (by decide)) (by rfl) T.d_law_parts.g T.d_law_parts.F.kp T.d_law_parts.b .nil pass0 (pa_cons (pv 0) (pa_cons (pv 1) pa_nil))))
      (pss_cons (ps_set (i := 3) sc_law_least.nd rfl (.inl rfl) (pe_lst pa_nil))
      (pss_cons (ps_for PassesOwn.never rfl (pi_range1 (by rfl) T.b_range (pa_cons (pe_callB (k_len K) (by rfl) T.b_len (by decide +kernel) (pa_cons (pv 2) pa_nil)) pa_nil)) (pg_name (i := 4) sc_law_least.nd rfl (.inr rfl)) (pss_one (ps_expr (k_append K (pv 3) (pa_cons (pe_lc (own := [("_law_j", 5)]) rfl sc_law_least.nd (pi_range1 (by rfl) T.b_range (pa_cons (pe_callB (k_len K) (by rfl) T.b_len (by decide +kernel) (pa_cons (pe_ix (k_ix K) (pv 2) (pv 4) (fun _ _ => rfl)) pa_nil)) pa_nil)) (blkOk_by (by kernel_rfl)) (fun _ _ _ _ _ => (pg_name (i := 5) sc_law_least.nd rfl (.inl rfl))) (fun _ _ _ _ _ => pts_nil) (fun _ _ _ _ _ => (pe_op op_mod (pe_ix (k_ix K) (pe_ix (k_ix K) (pv 2) (pv 4) (fun _ _ => rfl)) (pv 5) (fun _ _ => rfl)) (pe_call (ok_law_top T) (hr.mono (by decide)) (by rfl) T.d_law_top.g T.d_law_top.F.kp T.d_law_top.b .nil pass0 (pa_cons (pv 0) (pa_cons (pv 4) (pa_cons (pv 5) pa_nil))))))) pa_nil)))))
      (pss_one (ps_ret (pe_call (ok_law_sum T) (hr.mono (by decide)) (by rfl) T.d_law_sum.g T.d_law_sum.F.kp T.d_law_sum.b .nil pass0 (pa_cons (pv 0) (pa_cons (pv 3) pa_nil)))))))), fun ds r h => ?_⟩)
  · obtain ⟨m, A, rfl, _⟩ := h; rfl
  · obtain ⟨m, A, rfl, hm, hm2, hA, rfl⟩ := h
    have hB : Sz 400 (lpartsM m A) := sz_tabT hA
    have hB1 := hB.1
    walk_at "ev"
    refine ⟨_, ⟨m, A, rfl, hm, hA, rfl⟩, ?_⟩
    unfold lleastM
    generalize lpartsM m A = B at hB hB1 ⊢
    walk_at "ev"
    refine ev_lstA ?_
    walk_at "ev"
    intro p hp
    refine wp_seq (wp_forI ?_)
    walk_at "ev"
    refine ⟨B.length, fun k sl S => ∃ y4 : Option Dt, sl = [some (.i m), some (tP A), some (lL B), some (.a p), y4, none] ∧ S p = some (.l (((List.range k).map fun i => (List.range (rowM B i).length).map fun j => co (rowM B i) j % top m i j).map lI)),
      by rw [List.length_map], by omega, ⟨none, rfl, put_same⟩, fun i sl S hi => ?_, fun sl S => ?_⟩
    · rintro ⟨y4, rfl, hS⟩
      have hrl := hB.row i
      walk_at "ev"
      refine ev_append ?_
      walk_at "ev"
      refine ⟨p, _, rfl, hS, ?_⟩
      refine ev_lcN (by simp) ?_
      walk_at "ev"
      refine rv_ix sv_l (atI_nn rfl (row_gl hi)) ?_
      walk_at "ev"
      refine ⟨(rowM B i).length, fun j => .i (co (rowM B i) j % top m i j), by rw [List.length_map], by omega, fun j hj => ?_, .inl ?_⟩
      · have := top_pos hm i j
        walk_at "ev"
        refine rv_ix sv_l (atI_nn rfl (row_gl hi)) ?_
        walk_at "ev"
        refine rv_ix sv_l (atI_nn rfl (co_at hj)) ?_
        walk_at "ev"
        refine ⟨_, ⟨m, i, j, rfl, hm, hm2, by omega, by omega, rfl⟩, ?_⟩
        walk_at "ev"
        exact ⟨rfl, rfl⟩
      · refine ⟨hS, by rw [List.length_map, List.length_map, List.length_range]; omega, _, rfl, ?_⟩
        rw [put_same, List.range_succ, List.map_append, List.map_append]
        unfold lI
        simp only [List.map_map, List.map_cons, List.map_nil]
        rfl
    · rintro ⟨y4, rfl, hS⟩
      refine wp_freeze (i := 3) rfl hS ?_
      walk_at "ev"
      exact ⟨_, ⟨m, modT m B, rfl, hm, sz_modT hB, rfl⟩, rfl⟩
def SmL (m : Int) : Prop := ∀ A, Sz 4 (lleastM m A)
/-- a net that the law draws -/
def NetDr (m : Int) (net : Net) : Prop := ∀ s ∈ net, Cn m s.1 ∧ s.1.length ≤ 4 ∧ 0 ≤ s.2 ∧ s.2 < m
theorem bothM_cons {m : Int} {A R : List (List Int)} {s : List Int × Int} {r : Net} : bothM m A R (s :: r) = bothM m R (lleastM m (lwideM m A R s)) r := by rw [bothM]
def R_law_both (ds : List Dt) (r : Dt) : Prop := ∃ (m : Int) (net : Net), ds = [.i m, tN net] ∧ 0 < m ∧ m ≤ 1000 ∧ SmL m ∧ NetDr m net ∧ net.length ≤ 100 ∧ r = .t [tP (bothM m oX oY net).1, tP (bothM m oX oY net).2]
theorem ok_law_both (T : Txt K mg) : FnOk P w K mg base CX0 4 T.d_law_both.f T.d_law_both.fd ["_law_m", "_law_net_here"] (spP K R_law_both) := by
  refine okP T.d_law_both.F sc_law_both (fun ds r h => ?_) (fun cdv A outer s H E hr => ⟨_, (pss_cons (ps_asg (pe_tup (pa_cons (pe_tup (pa_cons (pe_tup pa_nil) (pa_cons (pe_tup (pa_cons pe_int pa_nil)) pa_nil))) (pa_cons (pe_tup (pa_cons (pe_tup (pa_cons pe_int (pa_cons pe_int pa_nil))) pa_nil)) pa_nil))) (k_gtup K (n := 2) rfl (pgs_cons (pg_name (i := 2) sc_law_both.nd rfl (.inl rfl)) (pgs_cons (pg_name (i := 3) sc_law_both.nd rfl (.inl rfl)) pgs_nil))))
      (pss_cons (ps_for PassesOwn.never rfl (k_seq K (pv 1)) (pg_name (i := 4) sc_law_both.nd rfl (.inl rfl)) (pss_one (ps_par (i := 2) (j := 3) rfl sc_law_both.nd rfl rfl (by decide) rfl rfl (pa_cons (pv 3) (pa_cons (pe_call (ok_law_least T) (hr.mono (by decide)) (by rfl) T.d_law_least.g T.d_law_least.F.kp T.d_law_least.b .nil pass0 (pa_cons (pv 0) (pa_cons (pe_call (ok_law_wide T) (hr.mono (by decide)) (by rfl) T.d_law_wide.g T.d_law_wide.F.kp T.d_law_wide.b .nil pass0 (pa_cons (pv 0) (pa_cons (pv 2) (pa_cons (pv 3) (pa_cons (pv 4) pa_nil))))) pa_nil))) pa_nil)) (by rfl))))
      (pss_one (ps_ret (pe_tup (pa_cons (pv 2) (pa_cons (pv 3) pa_nil))))))), fun ds r h => ?_⟩)
  · obtain ⟨m, net, rfl, _⟩ := h; rfl
  · obtain ⟨m, net, rfl, hm, hm2, hsm, hn, hl, rfl⟩ := h
    refine wp_seq (wp_asgG (tg_tup (js := [2, 3]) rfl) ?_)
    walk_at "ev"
    refine ⟨_, ⟨rfl, rfl⟩, ?_⟩
    refine wp_seq (wp_forM (α := List Int × Int) tg_name (ei_seq ?_))
    walk_at "ev"
    refine ⟨net.map enS, .inl rfl, net, enS, fun r sl S => ∃ (A R : List (List Int)) (y4 : Option Dt), sl = [some (.i m), some (tN net), some (tP A), some (tP R), y4] ∧ Sz 8 A ∧ Sz 8 R ∧ bothM m A R r = bothM m oX oY net, rfl, ⟨oX, oY, none, rfl, sz_oX, sz_oY, rfl⟩, fun s r sl S hs => ?_, fun sl S => ?_⟩
    · rintro ⟨A, R, y4, rfl, zA, zR, e⟩
      refine ⟨_, rfl, ?_⟩
      obtain ⟨n1, n2, n3, n4⟩ := hn s hs
      rw [bothM_cons] at e
      refine wp_par ?_
      walk_at "ev"
      refine ⟨_, ⟨m, A, R, s, rfl, hm, hm2, zA, zR, n2, n1.1, n3, n4, rfl⟩, ?_⟩
      walk_at "ev"
      refine ⟨_, ⟨m, _, rfl, hm, hm2, (sz_lwide zA zR n2).mono (by decide), rfl⟩, ?_⟩
      walk_at "ev"
      exact ⟨_, _, rfl, _, _, _, rfl, zR, (hsm _).mono (by decide), e⟩
    · rintro ⟨A, R, y4, rfl, zA, zR, e⟩
      walk_at "ev"
      have e2 : (A, R) = bothM m oX oY net := e
      rw [← e2]
end
end Nf

set_option Elab.async false
set_option linter.all false
set_option maxRecDepth 100000
set_option maxHeartbeats 4000000
namespace Nf
open PySem PySem.Spec PyProof.Rows L2 RT RZ Mz
theorem drop_drop {α : Type} {z : α → Bool} : ∀ l : List α, (l.dropWhile z).dropWhile z = l.dropWhile z
  | [] => rfl
  | x :: l => by
    rw [List.dropWhile_cons]
    by_cases h : z x = true
    · rw [if_pos h, drop_drop l]
    · rw [if_neg h, List.dropWhile_cons, if_neg h]
theorem trm_trm {α : Type} {z : α → Bool} {l : List α} : trm z (trm z l) = trm z l := by
  unfold trm
  rw [List.reverse_reverse, drop_drop]
theorem cn_pol {m : Int} (hm : 0 < m) {xs : List Int} : Cn m (pol m xs) := ⟨red_pol hm, trm_trm⟩
theorem pol2_single {m : Int} {xs : List Int} : pol2 m [xs] = if pol m xs = [] then [] else [pol m xs] := by
  show trm List.isEmpty ([] ++ [pol m xs]) = _
  rw [trm_snoc]
  by_cases h : pol m xs = []
  · rw [if_pos h, h]; rfl
  · rw [if_neg h, if_neg (by simpa using h)]; rfl
theorem pls_cut {P : List (List Int)} {lo hi : Option Int} : Pls 1 (cutD (P.map tI) lo hi) := pls_of fun d hd => by
  unfold cutD at hd
  obtain ⟨r, _, rfl⟩ := List.mem_map.mp (List.mem_of_mem_drop (List.mem_of_mem_take hd))
  exact pl_tI
section
variable {P : Program} {w : World} {K : PySem.W.Frag} {mg : Str → Option Value} {base : Heap}
def R_law_is_rest (ds : List Dt) (r : Dt) : Prop := ∃ (m x : Int), ds = [.i m, .i x] ∧ 0 ≤ x ∧ x < m ∧ r = .b true
theorem ok_law_is_rest (T : Txt K mg) : FnOk P w K mg base CX0 1 T.d_law_is_rest.f T.d_law_is_rest.fd ["_law_m", "_law_thing"] (spP K R_law_is_rest) := by
  refine okP T.d_law_is_rest.F sc_law_is_rest (fun ds r h => ?_) (fun cdv A outer s H E hr => ⟨_, (pss_one (ps_ret (pe_and (pe_callB (k_isi K) (by rfl) T.b_isinstance (by decide +kernel) (pa_cons (pv 1) (pa_cons (pe_bltn (v := .ty "int") (by rfl) T.b_int (by decide +kernel) rfl) pa_nil))) (pe_and (pe_not (pe_callB (k_isi K) (by rfl) T.b_isinstance (by decide +kernel) (pa_cons (pv 1) (pa_cons (pe_bltn (v := .ty "bool") (by rfl) T.b_bool (by decide +kernel) rfl) pa_nil)))) (pe_one (pe_chain op_le op_lt pe_int (pv 1) (pv 0))))))), fun ds r h => ?_⟩)
  · obtain ⟨m, x, rfl, _⟩ := h; rfl
  · obtain ⟨m, x, rfl, h0, h1, rfl⟩ := h
    walk_at "ev"
    refine dd2 (fun _ => ?_) (fun z => absurd h0 z)
    walk_at "ev"
    rw [decide_eq_true h1]
def R_law_is_grid (ds : List Dt) (r : Dt) : Prop := ∃ (m : Int) (A : List (List Int)), ds = [.i m, tP A] ∧ RedR m A ∧ Sz 80 A ∧ r = .b true
theorem ok_law_is_grid (T : Txt K mg) : FnOk P w K mg base CX0 2 T.d_law_is_grid.f T.d_law_is_grid.fd ["_law_m", "_law_thing"] (spP K R_law_is_grid) := by
  refine okP T.d_law_is_grid.F sc_law_is_grid (fun ds r h => ?_) (fun cdv A outer s H E hr => ⟨_, (pss_cons (ps_if (PW.pt (pw_or (pt_not (pt_val (pe_callB (k_isi K) (by rfl) T.b_isinstance (by decide +kernel) (pa_cons (pv 1) (pa_cons (pe_bltn (v := .ty "tuple") (by rfl) T.b_tuple (by decide +kernel) rfl) pa_nil))))) (pw_or1 (pt_cmpR op_gt (pe_callB (k_len K) (by rfl) T.b_len (by decide +kernel) (pa_cons (pv 1) pa_nil)) pe_int (nomark _))))) (pss_one (ps_ret pe_bl)) pss_nil)
      (pss_cons (ps_for PassesOwn.never rfl (k_seq K (pv 1)) (pg_name (i := 2) sc_law_is_grid.nd rfl (.inl rfl)) (pss_one (ps_if (PW.pt (pw_or (pt_not (pt_val (pe_callB (k_isi K) (by rfl) T.b_isinstance (by decide +kernel) (pa_cons (pv 2) (pa_cons (pe_bltn (v := .ty "tuple") (by rfl) T.b_tuple (by decide +kernel) rfl) pa_nil))))) (pw_or (pt_cmpR op_gt (pe_callB (k_len K) (by rfl) T.b_len (by decide +kernel) (pa_cons (pv 2) pa_nil)) pe_int (nomark _)) (pw_or1 (pt_cmpR (k_in K) pe_bl (pe_lc (own := [("_law_one", 3)]) rfl sc_law_is_grid.nd (k_seq K (pv 2)) (blkOk_by (by kernel_rfl)) (fun _ _ _ _ _ => (pg_name (i := 3) sc_law_is_grid.nd rfl (.inl rfl))) (fun _ _ _ _ _ => pts_nil) (fun _ _ _ _ _ => (pe_call (ok_law_is_rest T) (hr.mono (by decide)) (by rfl) T.d_law_is_rest.g T.d_law_is_rest.F.kp T.d_law_is_rest.b .nil pass0 (pa_cons (pv 0) (pa_cons (pv 3) pa_nil))))) (by rfl)))))) (pss_one (ps_ret pe_bl)) pss_nil)))
      (pss_one (ps_ret pe_bl)))), fun ds r h => ?_⟩)
  · obtain ⟨m, A, rfl, _⟩ := h; rfl
  · obtain ⟨m, A, rfl, hR, hA, rfl⟩ := h
    walk_at "ev"
    refine dd2 (fun h => absurd hA.1 (by rw [List.length_map] at h; omega)) (fun h => ?_)
    refine wp_next ?_
    refine wp_seq (wp_forM (α := List Int) tg_name (ei_seq ?_))
    walk_at "ev"
    refine ⟨A.map tI, .inl rfl, A, tI, fun r sl S => ∃ (y2 y3 : Option Dt), sl = [some (.i m), some (tP A), y2, y3], rfl, ⟨none, none, rfl⟩, fun row r sl S hrow => ?_, fun sl S => ?_⟩
    · rintro ⟨y2, y3, rfl⟩
      refine ⟨_, rfl, ?_⟩
      have hrl := hA.2 row hrow
      walk_at "ev"
      refine dd3 (fun h => absurd hrl (by rw [List.length_map] at h; omega)) (fun h => ?_)
      walk_at "ev"
      refine ev_lc (α := Int) tg_name (by simp) (ei_seq ?_)
      walk_at "ev"
      refine ⟨row.map Dt.i, .inl rfl, row, Dt.i, fun _ => .b true, rfl, by omega, fun x hx => ⟨_, rfl, ?_⟩, .inl ?_⟩
      · walk_at "ev"
        exact ⟨_, ⟨m, x, rfl, (hR row hrow x hx).1, (hR row hrow x hx).2, rfl⟩, rfl, rfl⟩
      refine rv_inB (bs := row.map fun _ => true) (.inl (by rw [List.map_map]; rfl)) ?_
      have e : (row.map fun _ => true).all id = true := by simp
      rw [e]
      walk_at "ev"
      refine wp_next ?_
      exact ⟨_, _, rfl⟩
    · rintro ⟨y2, y3, rfl⟩
      walk_at "ev"
      rfl
def R_law_is (ds : List Dt) (r : Dt) : Prop := ∃ (m : Int) (A : List (List Int)), ds = [.i m, tP A] ∧ Cn2 m A ∧ Sz 1000 A ∧ r = .b true
theorem ok_law_is (T : Txt K mg) : FnOk P w K mg base CX0 2 T.d_law_is.f T.d_law_is.fd ["_law_m", "_law_thing"] (spP K R_law_is) := by
  refine okP T.d_law_is.F sc_law_is (fun ds r h => ?_) (fun cdv A outer s H E hr => ⟨_, (pss_cons (ps_if (PW.pt (pw_or (pt_not (pt_val (pe_callB (k_isi K) (by rfl) T.b_isinstance (by decide +kernel) (pa_cons (pv 1) (pa_cons (pe_bltn (v := .ty "tuple") (by rfl) T.b_tuple (by decide +kernel) rfl) pa_nil))))) (pw_or1 (PW.pt (pw_and (pt_cmpR (k_ne K hr.units) (pv 1) (pe_tup pa_nil) (nomark _)) (pw_and1 (pt_cmpR (k_eq K hr.units) (pe_ix (k_ix K) (pv 1) (pe_un un_neg pe_int) (fun _ _ => rfl)) (pe_tup pa_nil) (nomark _)))))))) (pss_one (ps_ret pe_bl)) pss_nil)
      (pss_cons (ps_for PassesOwn.never rfl (k_seq K (pv 1)) (pg_name (i := 2) sc_law_is.nd rfl (.inl rfl)) (pss_cons (ps_if (PW.pt (pw_or (pt_not (pt_val (pe_callB (k_isi K) (by rfl) T.b_isinstance (by decide +kernel) (pa_cons (pv 2) (pa_cons (pe_bltn (v := .ty "tuple") (by rfl) T.b_tuple (by decide +kernel) rfl) pa_nil))))) (pw_or1 (pt_cmpR (k_in K) pe_bl (pe_lc (own := [("_law_one", 3)]) rfl sc_law_is.nd (k_seq K (pv 2)) (blkOk_by (by kernel_rfl)) (fun _ _ _ _ _ => (pg_name (i := 3) sc_law_is.nd rfl (.inl rfl))) (fun _ _ _ _ _ => pts_nil) (fun _ _ _ _ _ => (pe_call (ok_law_is_rest T) (hr.mono (by decide)) (by rfl) T.d_law_is_rest.g T.d_law_is_rest.F.kp T.d_law_is_rest.b .nil pass0 (pa_cons (pv 0) (pa_cons (pv 3) pa_nil))))) (by rfl))))) (pss_one (ps_ret pe_bl)) pss_nil)
      (pss_one (ps_if (PW.pt (pw_and (pt_cmpR (k_ne K hr.units) (pv 2) (pe_tup pa_nil) (nomark _)) (pw_and1 (pt_cmpR (k_eq K hr.units) (pe_ix (k_ix K) (pv 2) (pe_un un_neg pe_int) (fun _ _ => rfl)) pe_int (nomark _))))) (pss_one (ps_ret pe_bl)) pss_nil))))
      (pss_one (ps_ret pe_bl)))), fun ds r h => ?_⟩)
  · obtain ⟨m, A, rfl, _⟩ := h; rfl
  · obtain ⟨m, A, rfl, hc, hA, rfl⟩ := h
    refine wp_seq (WP.mono (N' := fun sl' S' => sl' = [some (.i m), some (tP A), none, none] ∧ S' = nos) (R' := fun _ _ => False) ?_ ?_ fun _ _ z => z.elim)
    · walk_at "ev"
      refine rv_ned pl_tP pl_nilT (by decide) (by decide) (n := 2) (m := 2) (fun h => ?_) (fun h => ?_)
      · walk_at "ev"
        exact wp_next ⟨rfl, rfl⟩
      · have hne : A ≠ [] := fun z => h (by rw [z]; rfl)
        obtain ⟨zs, x, rfl⟩ := snoc_of hne
        walk_at "ev"
        refine rv_ix sv_t atI_last ?_
        walk_at "ev"
        have h3 := trm_last hc.2
        refine rv_eqd pl_tI pl_nilT (by decide) (by decide) (n := 1) (m := 1) (fun e => ?_) (fun e => ?_)
        · have e2 : x = [] := tI_inj e
          subst e2
          cases h3
        · walk_at "ev"
          exact wp_next ⟨rfl, rfl⟩
    rintro sl' S' ⟨rfl, rfl⟩
    refine wp_seq (wp_forM (α := List Int) tg_name (ei_seq ?_))
    walk_at "ev"
    refine ⟨A.map tI, .inl rfl, A, tI, fun r sl S => ∃ (y2 y3 : Option Dt), sl = [some (.i m), some (tP A), y2, y3], rfl, ⟨none, none, rfl⟩, fun row r sl S hrow => ?_, fun sl S => ?_⟩
    · rintro ⟨y2, y3, rfl⟩
      refine ⟨_, rfl, ?_⟩
      have hrl := hA.2 row hrow
      have hr := hc.1 row hrow
      walk_at "ev"
      refine ev_lc (α := Int) tg_name (by simp) (ei_seq ?_)
      walk_at "ev"
      refine ⟨row.map Dt.i, .inl rfl, row, Dt.i, fun _ => .b true, rfl, by omega, fun x hx => ⟨_, rfl, ?_⟩, .inl ?_⟩
      · walk_at "ev"
        exact ⟨_, ⟨m, x, rfl, (hr.1 x hx).1, (hr.1 x hx).2, rfl⟩, rfl, rfl⟩
      refine rv_inB (bs := row.map fun _ => true) (.inl (by rw [List.map_map]; rfl)) ?_
      have e : (row.map fun _ => true).all id = true := by simp
      rw [e]
      walk_at "ev"
      refine wp_next ?_
      walk_at "ev"
      refine rv_ned pl_tI pl_nilT (by decide) (by decide) (n := 1) (m := 1) (fun h => ?_) (fun h => ?_)
      · walk_at "ev"
        refine wp_next ?_
        exact ⟨_, _, rfl⟩
      · have hne : row ≠ [] := fun z => h (by rw [z]; rfl)
        obtain ⟨zs, x, rfl⟩ := snoc_of hne
        walk_at "ev"
        refine rv_ix sv_t atI_last ?_
        walk_at "ev"
        have h3 := trm_last hr.2
        refine dd2 (fun h => ?_) (fun h => ?_)
        · rw [h] at h3; cases h3
        · refine wp_next ?_
          exact ⟨_, _, rfl⟩
    · rintro ⟨y2, y3, rfl⟩
      walk_at "ev"
      rfl
/-- a table that the law's own sum tells as B -/
def NullQ (m : Int) (B A : List (List Int)) : Prop := RedR m A ∧ Sz 80 A ∧ sumM m (topsM m A) = B
def R_law_null_due (ds : List Dt) (r : Dt) : Prop := ∃ (m : Int) (B A : List (List Int)), ds = [.i m, tP B, tP A] ∧ 0 < m ∧ m ≤ 1000 ∧ NullQ m B A ∧ B.length ≤ 50000 ∧ r = .b true
theorem ok_law_null_due (T : Txt K mg) : FnOk P w K mg base CX0 3 T.d_law_null_due.f T.d_law_null_due.fd ["_law_m", "_law_kp", "_law_thing"] (spP K R_law_null_due) := by
  refine okP T.d_law_null_due.F sc_law_null_due (fun ds r h => ?_) (fun cdv A outer s H E hr => ⟨_, (pss_cons (ps_if (pt_not (pt_val (pe_call (ok_law_is_grid T) (hr.mono (by decide)) (by rfl) T.d_law_is_grid.g T.d_law_is_grid.F.kp T.d_law_is_grid.b .nil pass0 (pa_cons (pv 0) (pa_cons (pv 2) pa_nil))))) (pss_one (ps_ret (pe_tup (pa_cons pe_str (pa_cons pe_int pa_nil))))) pss_nil)
      (pss_cons (ps_set (i := 3) sc_law_null_due.nd rfl (.inl rfl) (pe_lst pa_nil))
      (pss_cons (ps_for PassesOwn.never rfl (pi_range1 (by rfl) T.b_range (pa_cons (pe_callB (k_len K) (by rfl) T.b_len (by decide +kernel) (pa_cons (pv 2) pa_nil)) pa_nil)) (pg_name (i := 4) sc_law_null_due.nd rfl (.inr rfl)) (pss_cons (ps_setLc (i := 5) (own := [("_law_j", 8)]) rfl sc_law_null_due.nd rfl rfl (sw_true rfl rfl rfl (by decide +kernel)) (pi_range1 (by rfl) T.b_range (pa_cons (pe_callB (k_len K) (by rfl) T.b_len (by decide +kernel) (pa_cons (pe_ix (k_ix K) (pv 2) (pv 4) (fun _ _ => rfl)) pa_nil)) pa_nil)) (blkOk_by (by kernel_rfl)) (fun _ _ _ _ _ => (pg_name (i := 8) sc_law_null_due.nd rfl (.inl rfl))) (fun _ _ _ _ _ => pts_nil) (fun _ _ _ _ _ => (pe_ifExp (pt_cmpR op_gt (pe_ix (k_ix K) (pe_ix (k_ix K) (pv 2) (pv 4) (fun _ _ => rfl)) (pv 8) (fun _ _ => rfl)) pe_int (nomark _)) (pe_op op_mulA (pe_ix (k_ix K) (pe_ix (k_ix K) (pv 2) (pv 4) (fun _ _ => rfl)) (pv 8) (fun _ _ => rfl)) (pe_call (ok_law_top T) (hr.mono (by decide)) (by rfl) T.d_law_top.g T.d_law_top.F.kp T.d_law_top.b .nil pass0 (pa_cons (pv 0) (pa_cons (pv 4) (pa_cons (pv 8) pa_nil))))) pe_int)))
      (pss_one (ps_expr (k_append K (pv 3) (pa_cons (pv 5) pa_nil))))))
      (pss_cons (ps_set (i := 6) sc_law_null_due.nd rfl (.inr rfl) (pe_call (ok_law_sum T) (hr.mono (by decide)) (by rfl) T.d_law_sum.g T.d_law_sum.F.kp T.d_law_sum.b .nil pass0 (pa_cons (pv 0) (pa_cons (pv 3) pa_nil))))
      (pss_cons (ps_setLc (i := 7) (own := [("_law_i", 4)]) rfl sc_law_null_due.nd rfl rfl (sw_true rfl rfl rfl (by decide +kernel)) (pi_range1 (by rfl) T.b_range (pa_cons (pe_callB (call_max2 rfl) (by rfl) T.b_max (by decide +kernel) (pa_cons (pe_callB (k_len K) (by rfl) T.b_len (by decide +kernel) (pa_cons (pv 1) pa_nil)) (pa_cons (pe_callB (k_len K) (by rfl) T.b_len (by decide +kernel) (pa_cons (pv 6) pa_nil)) pa_nil))) pa_nil)) (blkOk_by (by kernel_rfl)) (fun _ _ _ _ _ => (pg_name (i := 4) sc_law_null_due.nd rfl (.inl rfl))) (fun _ _ _ _ _ => (pts_one (pt_cmpR (k_ne K hr.units) (pe_slice (k_slT K) (pv 1) (po_some (pv 4)) (po_some (pe_op (k_add K) (pv 4) pe_int))) (pe_slice (k_slT K) (pv 6) (po_some (pv 4)) (po_some (pe_op (k_add K) (pv 4) pe_int))) (nomark _)))) (fun _ _ _ _ _ => (pv 4)))
      (pss_cons (ps_setLc (i := 7) (own := [("_law_i", 4)]) rfl sc_law_null_due.nd rfl rfl (sw_true rfl rfl rfl (by decide +kernel)) (k_seq K (pv 7)) (blkOk_by (by kernel_rfl)) (fun _ _ _ _ _ => (pg_name (i := 4) sc_law_null_due.nd rfl (.inl rfl))) (fun _ _ _ _ _ => (pts_one (pt_cmpR (k_ne K hr.units) (pe_op (k_add K) (pe_slice (k_slT K) (pv 1) (po_some (pv 4)) (po_some (pe_op (k_add K) (pv 4) pe_int))) (pe_slice (k_slT K) (pv 6) (po_some (pv 4)) (po_some (pe_op (k_add K) (pv 4) pe_int)))) (pe_tup (pa_cons (pe_tup pa_nil) pa_nil)) (nomark _)))) (fun _ _ _ _ _ => (pv 4)))
      (pss_one (ps_ret (pe_ifExp (pt_cmpR (k_eq K hr.units) (pv 7) (pe_lst pa_nil) (nomark _)) pe_bl (pe_tup (pa_cons pe_str (pa_cons (pe_ix (k_ix K) (pv 7) pe_int (fun _ _ => rfl)) pa_nil)))))))))))), fun ds r h => ?_⟩)
  · obtain ⟨m, B, A, rfl, _⟩ := h; rfl
  · obtain ⟨m, B, A, rfl, hm, hm2, ⟨hR, hA, e⟩, hB, rfl⟩ := h
    have hA1 := hA.1
    walk_at "ev"
    refine ⟨_, ⟨m, A, rfl, hR, hA, rfl⟩, ?_⟩
    walk_at "ev"
    refine wp_next ?_
    walk_at "ev"
    refine ev_lstA ?_
    walk_at "ev"
    intro p hp
    refine wp_seq (wp_forI ?_)
    walk_at "ev"
    refine ⟨A.length, fun k sl S => ∃ y4 y5 : Option Dt, sl = [some (.i m), some (tP B), some (tP A), some (.a p), y4, y5, none, none, none] ∧ S p = some (.l (((List.range k).map fun i => topsR m i (rowM A i)).map lI)), by rw [List.length_map], by omega, ⟨none, none, rfl, put_same⟩, fun i sl S hi => ?_, fun sl S => ?_⟩
    · rintro ⟨y4, y5, rfl, hS⟩
      have hrl := hA.row i
      have hrr := hR.row i
      refine wp_seq (wp_asg (ev_lcN (by simp) ?_))
      walk_at "ev"
      refine rv_ix sv_t (atI_nn rfl (row_gl hi)) ?_
      walk_at "ev"
      refine ⟨(rowM A i).length, fun j => .i (co (rowM A i) j * top m i j), by rw [List.length_map], by omega, fun j hj => ?_, .inl ?_⟩
      · have hb := top_bd hm i j
        have hc := hrr.at hj
        walk_at "ev"
        refine rv_ix sv_t (atI_nn rfl (row_gl hi)) ?_
        walk_at "ev"
        refine rv_ix sv_t (atI_nn rfl (co_at hj)) ?_
        walk_at "ev"
        refine dd2 (fun h => ?_) (fun h => ?_)
        · walk_at "ev"
          refine rv_ix sv_t (atI_nn rfl (row_gl hi)) ?_
          walk_at "ev"
          refine rv_ix sv_t (atI_nn rfl (co_at hj)) ?_
          walk_at "ev"
          refine ⟨_, ⟨m, i, j, rfl, hm, hm2, by omega, by omega, rfl⟩, ?_⟩
          refine rv_mulS (.inr ⟨by omega, by omega⟩) ?_
          exact ⟨rfl, rfl⟩
        · walk_at "ev"
          exact ⟨by show _ = Dt.i _; rw [show co (rowM A i) j = 0 by omega, Int.zero_mul], rfl⟩
      · walk_at "ev"
        refine ev_append ?_
        walk_at "ev"
        refine ⟨p, _, rfl, hS, ?_⟩
        walk_at "ev"
        refine ⟨hS, by rw [List.length_map, List.length_map, List.length_range]; omega, _, _, rfl, ?_⟩
        rw [put_same, List.range_succ, List.map_append, List.map_append]
        have e5 : lI (topsR m i (rowM A i)) = .l ((List.range (rowM A i).length).map fun j => .i (co (rowM A i) j * top m i j)) := by
          unfold lI topsR
          rw [en_map (d := 0), List.map_map]
          congr 1
          apply List.map_congr_left
          intro j _
          show Dt.i (co (rowM A i) j * top m i (0 + j)) = Dt.i (co (rowM A i) j * top m i j)
          rw [Nat.zero_add]
        show some (Cel.l (_ ++ [_])) = some (Cel.l (_ ++ [lI (topsR m i (rowM A i))]))
        rw [e5]
    · rintro ⟨y4, y5, rfl, hS⟩
      rw [← topsM_eq] at hS
      have hz : Sz 400 (topsM m A) := by
        rw [topsM_eq]
        refine sz_mapr _ (by omega) fun i hi => ?_
        unfold topsR
        rw [List.length_map, en_len]
        exact Nat.le_trans (hA.row i) (by decide)
      refine wp_freeze (i := 3) rfl hS ?_
      walk_at "ev"
      refine ⟨_, ⟨m, topsM m A, rfl, hm, hz, rfl⟩, ?_⟩
      rw [e]
      refine wp_seq (wp_asg (lc_gen tg_name (by simp) (ei_rng1 ?_)))
      walk_at "ev"
      refine ⟨B.length, by congr 2; rw [List.length_map]; omega, by omega, ?_⟩
      generalize hS9 : (S.del p) = S9
      refine ⟨fun rest acc S2 => acc = [] ∧ S2 = S9 ∧ ∃ zs : List Nat, rest = zs.map (fun k : Nat => Dt.i (k : Int)), ⟨rfl, rfl, List.range B.length, rgD01⟩, fun d r acc S2 h => ?_, fun acc S2 h => .inl ?_⟩
      · obtain ⟨rfl, rfl, zs, h⟩ := h
        cases zs with
        | nil => cases h
        | cons z zs =>
          cases h
          refine ⟨by decide, _, rfl, ?_⟩
          walk_at "ev"
          refine ev_slT ?_
          walk_at "ev"
          refine eo_some ?_
          walk_at "ev"
          refine ⟨_, rfl, eo_some ?_⟩
          walk_at "ev"
          refine ⟨_, rfl, _, rfl, ?_⟩
          refine ev_slT ?_
          walk_at "ev"
          refine eo_some ?_
          walk_at "ev"
          refine ⟨_, rfl, eo_some ?_⟩
          walk_at "ev"
          refine ⟨_, rfl, _, rfl, ?_⟩
          refine rv_ned (n := 2) (m := 2) (by unfold Pl; exact pls_cut) (by unfold Pl; exact pls_cut) (by decide) (by decide) (fun h => ?_) (fun h => absurd rfl h)
          walk_at "ev"
          exact ⟨rfl, rfl, zs, rfl⟩
      · obtain ⟨rfl, rfl, _⟩ := h
        refine wp_seq (wp_asg (lc_gen tg_name (by simp) (ei_seq ?_)))
        walk_at "ev"
        refine ⟨[], .inr rfl, fun rest acc S2 => rest = [] ∧ acc = [] ∧ S2 = S2, ⟨rfl, rfl, rfl⟩, fun d r acc S2 h => (nomatch h.1), fun acc S2 h => .inl ?_⟩
        obtain ⟨_, rfl, _⟩ := h
        walk_at "ev"
        refine ev_lst ?_
        walk_at "ev"
        refine rv_eqd (n := 1) (m := 1) (by unfold Pl Pls; trivial) (by unfold Pl Pls; trivial) (by decide) (by decide) (fun h => ?_) (fun h => absurd rfl h)
        walk_at "ev"
        rfl
def R_law_paper_right (ds : List Dt) (r : Dt) : Prop := ∃ (m : Int) (A B U V a b : List (List Int)), ds = [.i m, tP A, tP B, .t [.s sApart, tP U, tP V, tP a, tP b]] ∧ 0 < m ∧ m ≤ 1000 ∧ Sz 8 A ∧ Sz 8 B ∧ Sz 8 U ∧ Sz 8 V ∧ RedR 1000 A ∧ RedR 1000 B ∧ Cn2 m U ∧ Cn2 m V ∧
  Sz 1000 (putM m A U V) ∧ Sz 1000 (putM m B U V) ∧ NullQ m (addM m (putM m A U V) oX (-1)) a ∧ NullQ m (addM m (putM m B U V) oY (-1)) b ∧ r = .b true
theorem ok_law_paper_right (T : Txt K mg) : FnOk P w K mg base CX0 4 T.d_law_paper_right.f T.d_law_paper_right.fd ["_law_m", "_law_kp", "_law_kq", "_law_thing"] (spP K R_law_paper_right) := by
  refine okP T.d_law_paper_right.F sc_law_paper_right (fun ds r h => ?_) (fun cdv A outer s H E hr => ⟨_, (pss_cons (ps_if (PW.pt (pw_or (pt_not (pt_val (pe_callB (k_isi K) (by rfl) T.b_isinstance (by decide +kernel) (pa_cons (pv 3) (pa_cons (pe_bltn (v := .ty "tuple") (by rfl) T.b_tuple (by decide +kernel) rfl) pa_nil))))) (pw_or (pt_cmpR (k_ne K hr.units) (pe_callB (k_len K) (by rfl) T.b_len (by decide +kernel) (pa_cons (pv 3) pa_nil)) pe_int (nomark _)) (pw_or1 (pt_cmpR (k_ne K hr.units) (pe_ix (k_ix K) (pv 3) pe_int (fun _ _ => rfl)) pe_str (nomark _)))))) (pss_one (ps_ret pe_bl)) pss_nil)
      (pss_cons (ps_if (PW.pt (pw_or (pt_not (pt_val (pe_call (ok_law_is T) (hr.mono (by decide)) (by rfl) T.d_law_is.g T.d_law_is.F.kp T.d_law_is.b .nil pass0 (pa_cons (pv 0) (pa_cons (pe_ix (k_ix K) (pv 3) pe_int (fun _ _ => rfl)) pa_nil))))) (pw_or1 (pt_not (pt_val (pe_call (ok_law_is T) (hr.mono (by decide)) (by rfl) T.d_law_is.g T.d_law_is.F.kp T.d_law_is.b .nil pass0 (pa_cons (pv 0) (pa_cons (pe_ix (k_ix K) (pv 3) pe_int (fun _ _ => rfl)) pa_nil)))))))) (pss_one (ps_ret pe_bl)) pss_nil)
      (pss_cons (ps_set (i := 4) sc_law_paper_right.nd rfl (.inl rfl) (pe_call (ok_law_add T) (hr.mono (by decide)) (by rfl) T.d_law_add.g T.d_law_add.F.kp T.d_law_add.b .nil pass0 (pa_cons (pv 0) (pa_cons (pe_call (ok_law_put T) (hr.mono (by decide)) (by rfl) T.d_law_put.g T.d_law_put.F.kp T.d_law_put.b .nil pass0 (pa_cons (pv 0) (pa_cons (pv 1) (pa_cons (pe_ix (k_ix K) (pv 3) pe_int (fun _ _ => rfl)) (pa_cons (pe_ix (k_ix K) (pv 3) pe_int (fun _ _ => rfl)) pa_nil))))) (pa_cons (pe_tup (pa_cons (pe_tup pa_nil) (pa_cons (pe_tup (pa_cons pe_int pa_nil)) pa_nil))) (pa_cons (pe_un un_neg pe_int) pa_nil))))))
      (pss_cons (ps_set (i := 5) sc_law_paper_right.nd rfl (.inl rfl) (pe_call (ok_law_add T) (hr.mono (by decide)) (by rfl) T.d_law_add.g T.d_law_add.F.kp T.d_law_add.b .nil pass0 (pa_cons (pv 0) (pa_cons (pe_call (ok_law_put T) (hr.mono (by decide)) (by rfl) T.d_law_put.g T.d_law_put.F.kp T.d_law_put.b .nil pass0 (pa_cons (pv 0) (pa_cons (pv 2) (pa_cons (pe_ix (k_ix K) (pv 3) pe_int (fun _ _ => rfl)) (pa_cons (pe_ix (k_ix K) (pv 3) pe_int (fun _ _ => rfl)) pa_nil))))) (pa_cons (pe_tup (pa_cons (pe_tup (pa_cons pe_int (pa_cons pe_int pa_nil))) pa_nil)) (pa_cons (pe_un un_neg pe_int) pa_nil))))))
      (pss_one (ps_ret (pe_and (pe_cmpR op_isBl (pe_call (ok_law_null_due T) (hr.mono (by decide)) (by rfl) T.d_law_null_due.g T.d_law_null_due.F.kp T.d_law_null_due.b .nil pass0 (pa_cons (pv 0) (pa_cons (pv 4) (pa_cons (pe_ix (k_ix K) (pv 3) pe_int (fun _ _ => rfl)) pa_nil)))) pe_bl (nomark _)) (pe_one (pe_cmpR op_isBl (pe_call (ok_law_null_due T) (hr.mono (by decide)) (by rfl) T.d_law_null_due.g T.d_law_null_due.F.kp T.d_law_null_due.b .nil pass0 (pa_cons (pv 0) (pa_cons (pv 5) (pa_cons (pe_ix (k_ix K) (pv 3) pe_int (fun _ _ => rfl)) pa_nil)))) pe_bl (nomark _)))))))))), fun ds r h => ?_⟩)
  · obtain ⟨m, A, B, U, V, a, b, rfl, _⟩ := h; rfl
  · obtain ⟨m, A, B, U, V, a, b, rfl, hm, hm2, zA, zB, zU, zV, rA, rB, hU, hV, z1, z2, ha, hb, rfl⟩ := h
    walk_at "ev"
    refine nd3 (fun _ => ?_) (fun z => absurd rfl z)
    walk_at "ev"
    refine rv_ix sv_t (atI_nn (j := 0) rfl rfl) ?_
    walk_at "ev"
    refine nd2 (fun _ => ?_) (fun z => absurd rfl z)
    refine wp_next ?_
    walk_at "ev"
    refine rv_ix sv_t (atI_nn (j := 1) rfl rfl) ?_
    walk_at "ev"
    refine ⟨_, ⟨m, U, rfl, hU, zU.mono (by decide), rfl⟩, ?_⟩
    walk_at "ev"
    refine rv_ix sv_t (atI_nn (j := 2) rfl rfl) ?_
    walk_at "ev"
    refine ⟨_, ⟨m, V, rfl, hV, zV.mono (by decide), rfl⟩, ?_⟩
    walk_at "ev"
    refine wp_next ?_
    walk_at "ev"
    refine rv_ix sv_t (atI_nn (j := 1) rfl rfl) ?_
    walk_at "ev"
    refine rv_ix sv_t (atI_nn (j := 2) rfl rfl) ?_
    walk_at "ev"
    refine ⟨_, ⟨m, A, U, V, rfl, hm, hm2, rA, zA, zU, zV, rfl⟩, ?_⟩
    walk_at "ev"
    refine ⟨_, ⟨m, _, oX, -1, rfl, hm, z1.mono (by decide), sz_oX.mono (by decide), by decide, by decide, rfl⟩, ?_⟩
    walk_at "ev"
    refine rv_ix sv_t (atI_nn (j := 1) rfl rfl) ?_
    walk_at "ev"
    refine rv_ix sv_t (atI_nn (j := 2) rfl rfl) ?_
    walk_at "ev"
    refine ⟨_, ⟨m, B, U, V, rfl, hm, hm2, rB, zB, zU, zV, rfl⟩, ?_⟩
    walk_at "ev"
    refine ⟨_, ⟨m, _, oY, -1, rfl, hm, z2.mono (by decide), sz_oY.mono (by decide), by decide, by decide, rfl⟩, ?_⟩
    have y1 : Sz 1000 (addM m (putM m A U V) oX (-1)) := sz_add z1 (sz_oX.mono (by decide))
    have y2 : Sz 1000 (addM m (putM m B U V) oY (-1)) := sz_add z2 (sz_oY.mono (by decide))
    walk_at "ev"
    refine rv_ix sv_t (atI_nn (j := 3) rfl rfl) ?_
    walk_at "ev"
    refine ⟨_, ⟨m, _, a, rfl, hm, hm2, ha, Nat.le_trans y1.1 (by decide), rfl⟩, ?_⟩
    walk_at "ev"
    refine dd2 (fun _ => ?_) (fun z => absurd rfl z)
    walk_at "ev"
    refine rv_ix sv_t (atI_nn (j := 4) rfl rfl) ?_
    walk_at "ev"
    refine ⟨_, ⟨m, _, b, rfl, hm, hm2, hb, Nat.le_trans y2.1 (by decide), rfl⟩, ?_⟩
    walk_at "ev"
    rfl
def R_law_net (ds : List Dt) (S : Sto) (Pd : Dt → Sto → Prop) : Prop := ∃ (p : Addr) (m : Int) (few most n : Nat), ds = [.a p, .i m, .i (few : Int), .i (most : Int)] ∧ 0 < m ∧ m ≤ 1000 ∧ few ≤ most ∧ most ≤ 10 ∧ TapeAt S p n ∧ n ≤ 50000 ∧
  ∀ net S', NetDr m net → few ≤ net.length → net.length ≤ most → TapeAt S' p (n + 200) → Frm S S' p → Pd (tN net) S'
theorem TapeAt.mono {S : Sto} {p : Addr} {n k : Nat} (h : TapeAt S p n) (e : n ≤ k) : TapeAt S p k := by
  obtain ⟨c, s, l, h1, h2⟩ := h
  exact ⟨c, s, l, h1, Nat.le_trans h2 e⟩
theorem TapeAt.put {S : Sto} {p q : Addr} {n : Nat} {c : Cel} (h : TapeAt S p n) (e : p ≠ q) : TapeAt (S.put q c) p n := by
  obtain ⟨c, s, l, h1, h2⟩ := h
  exact ⟨c, s, l, by rw [put_ne e]; exact h1, h2⟩
theorem ok_law_net (T : Txt K mg) : FnOk P w K mg base CX0 2 T.d_law_net.f T.d_law_net.fd ["_law_tape_here", "_law_m", "_law_few", "_law_most"] (spS K R_law_net) := by
  refine okS T.d_law_net.F sc_law_net (fun ds S Pd h => ?_) (fun cdv A outer s H E hr => ⟨_, (pss_cons (ps_set (i := 4) sc_law_net.nd rfl (.inl rfl) (pe_lst pa_nil))
      (pss_cons (ps_for PassesOwn.never rfl (pi_range1 (by rfl) T.b_range (pa_cons (pe_op (k_add K) (pv 2) (pe_call (ok_law_draw T) (hr.mono (by decide)) (by rfl) T.d_law_draw.g T.d_law_draw.F.kp T.d_law_draw.b .nil pass0 (pa_cons (pv 0) (pa_cons (pe_op (k_add K) (pe_op op_sub (pv 3) (pv 2)) pe_int) pa_nil)))) pa_nil)) (pg_name (i := 5) sc_law_net.nd rfl (.inl rfl)) (pss_cons (ps_set (i := 6) sc_law_net.nd rfl (.inl rfl) (pe_call (ok_law_trim T) (hr.mono (by decide)) (by rfl) T.d_law_trim.g T.d_law_trim.F.kp T.d_law_trim.b .nil pass0 (pa_cons (pv 1) (pa_cons (pe_lst (pa_cons (pe_lc (own := [("_law_j", 7)]) rfl sc_law_net.nd (pi_range1 (by rfl) T.b_range (pa_cons (pe_call (ok_law_draw T) (hr.mono (by decide)) (by rfl) T.d_law_draw.g T.d_law_draw.F.kp T.d_law_draw.b .nil pass0 (pa_cons (pv 0) (pa_cons pe_int pa_nil))) pa_nil)) (blkOk_by (by kernel_rfl)) (fun _ _ _ _ _ => (pg_name (i := 7) sc_law_net.nd rfl (.inl rfl))) (fun _ _ _ _ _ => pts_nil) (fun _ _ _ _ _ => (pe_op op_mulA (pe_call (ok_law_draw T) (hr.mono (by decide)) (by rfl) T.d_law_draw.g T.d_law_draw.F.kp T.d_law_draw.b .nil pass0 (pa_cons (pv 0) (pa_cons (pv 1) pa_nil))) (pe_callTy call_int1 (by rfl) T.b_int (by decide +kernel) (pa_cons (pe_cmpR op_gt (pe_call (ok_law_draw T) (hr.mono (by decide)) (by rfl) T.d_law_draw.g T.d_law_draw.F.kp T.d_law_draw.b .nil pass0 (pa_cons (pv 0) (pa_cons pe_int pa_nil))) pe_int (nomark _)) pa_nil))))) pa_nil)) pa_nil))))
      (pss_one (ps_expr (k_append K (pv 4) (pa_cons (pe_tup (pa_cons (pe_ifExp (pt_cmpR (k_ne K hr.units) (pv 6) (pe_tup pa_nil) (nomark _)) (pe_ix (k_ix K) (pv 6) pe_int (fun _ _ => rfl)) (pe_tup pa_nil)) (pa_cons (pe_call (ok_law_draw T) (hr.mono (by decide)) (by rfl) T.d_law_draw.g T.d_law_draw.F.kp T.d_law_draw.b .nil pass0 (pa_cons (pv 0) (pa_cons (pv 1) pa_nil))) pa_nil))) pa_nil))))))
      (pss_one (ps_ret (pe_callTy (k_tuple K) (by rfl) T.b_tuple (by decide +kernel) (pa_cons (pv 4) pa_nil)))))), fun ds S Pd h => ?_⟩)
  · obtain ⟨p, m, few, most, n, rfl, _⟩ := h; rfl
  · obtain ⟨p, m, few, most, n, rfl, hm, hm2, hfm, hmo, hT, hn, h⟩ := h
    walk_at "ev"
    refine ev_lstA ?_
    walk_at "ev"
    intro q hq
    have hpq : p ≠ q := fun z => by
      obtain ⟨c, s, l, h1, h2⟩ := hT
      rw [z, hq] at h1
      cases h1
    have hT1 : TapeAt (S.put q (.l [])) p n := hT.put hpq
    have hF1 : Frm S (S.put q (.l [])) p := fun a ha c hc => put_keep hc hq
    have hq1 : (S.put q (.l [])) q = some (.l []) := put_same
    generalize S.put q (.l []) = S1 at hT1 hF1 hq1
    refine wp_seq (wp_forI ?_)
    walk_at "ev"
    refine ev_callS ?_
    walk_at "ev"
    refine ⟨p, _, n, rfl, by omega, by omega, hT1, by omega, fun c S2 hc0 hc1 hT2 hF2 => ?_⟩
    walk_at "ev"
    refine ⟨few + c.toNat, fun k sl S3 => ∃ (net : Net) (y5 y6 : Option Dt), sl = [some (.a p), some (.i m), some (.i (few : Int)), some (.i (most : Int)), some (.a q), y5, y6, none] ∧ TapeAt S3 p (n + 1 + 10 * k) ∧ S3 q = some (.l (net.map enS)) ∧ net.length = k ∧ NetDr m net ∧ Frm S S3 p,
      by congr 2; omega, by omega, ⟨[], none, none, rfl, hT2, hF2 q hpq.symm _ hq1, rfl, fun s hs => (nomatch hs), hF1.trans hF2⟩, fun k sl S3 hk => ?_, fun sl S3 => ?_⟩
    · rintro ⟨net, y5, y6, rfl, hT3, hq3, hl, hN, hF3⟩
      walk_at "ev"
      refine ev_lst ?_
      walk_at "ev"
      refine lc_gen tg_name (by simp) (ei_rng1 ?_)
      walk_at "ev"
      refine ev_callS ?_
      walk_at "ev"
      refine ⟨p, 5, n + 1 + 10 * k, rfl, by decide, by decide, hT3, by omega, fun c5 S4 h50 h51 hT4 hF4 => ?_⟩
      walk_at "ev"
      refine ⟨c5.toNat, by congr 2; omega, by omega, ?_⟩
      refine ⟨fun rest acc S5 => ∃ (xs : List Int) (zs : List Nat), acc = xs.map Dt.i ∧ rest = zs.map (fun k : Nat => Dt.i (k : Int)) ∧ TapeAt S5 p (n + 1 + 10 * k + 1 + 2 * xs.length) ∧ Frm S4 S5 p ∧ xs.length + zs.length = c5.toNat, ⟨[], List.range c5.toNat, rfl, rgD01, hT4, Frm.refl, by rw [List.length_range]; simp⟩, fun d r acc S5 i => ?_, fun acc S5 i => .inl ?_⟩
      · obtain ⟨xs, zs, rfl, e, hT5, hF5, hxl⟩ := i
        cases zs with
        | nil => cases e
        | cons z zs =>
          cases e
          rw [List.length_cons] at hxl
          refine ⟨by rw [List.length_map]; omega, _, rfl, ?_⟩
          walk_at "ev"
          refine ev_callS ?_
          walk_at "ev"
          refine ⟨p, m, _, rfl, hm, by omega, hT5, by omega, fun a S6 ha0 ha1 hT6 hF6 => ?_⟩
          walk_at "ev"
          refine ev_callS ?_
          walk_at "ev"
          refine ⟨p, 3, _, rfl, by decide, by decide, hT6, by omega, fun b S7 hb0 hb1 hT7 hF7 => ?_⟩
          walk_at "ev"
          refine rv_mulS (.inl ⟨by omega, by omega⟩) ?_
          exact ⟨xs ++ [_], zs, by rw [map_snoc], rfl, hT7.mono (by rw [List.length_append, List.length_singleton]; omega), (hF5.trans hF6).trans hF7, by rw [List.length_append, List.length_singleton]; omega⟩
      · obtain ⟨xs, zs, rfl, e, hT5, hF5, hxl⟩ := i
        have hz : zs = [] := List.map_eq_nil_iff.mp e.symm
        subst hz
        rw [List.length_nil, Nat.add_zero] at hxl
        walk_at "ev"
        refine ⟨_, ⟨m, [xs], rfl, hm, ⟨by simp, fun r hr => by rw [List.mem_singleton.mp hr]; omega⟩, rfl⟩, ?_⟩
        walk_at "ev"
        refine ev_append ?_
        walk_at "ev"
        refine ⟨q, _, rfl, hF5 q hpq.symm _ (hF4 q hpq.symm _ hq3), ?_⟩
        refine ev_tup (ea_cons (Ev.mono (P' := fun d S' => d = tI (pol m xs) ∧ S' = S5) ?_ ?_))
        · rw [pol2_single]
          walk_at "ev"
          refine rv_ned pl_tP pl_nilT (by decide) (by decide) (n := 2) (m := 2) (fun h => ?_) (fun h => ?_)
          · have h2 := tP_inj (g := []) h
            have h3 : pol m xs = [] := by
              apply Classical.byContradiction
              intro z
              rw [if_neg z] at h2
              cases h2
            walk_at "ev"
            exact ⟨by rw [h3]; rfl, rfl⟩
          · have h3 : ¬ pol m xs = [] := fun z => h (by rw [if_pos z]; rfl)
            rw [if_neg h3]
            walk_at "ev"
            refine rv_ix sv_t (atI_nn (j := 0) rfl rfl) ?_
            exact ⟨rfl, rfl⟩
        rintro d S' ⟨rfl, rfl⟩
        walk_at "ev"
        refine ev_callS ?_
        walk_at "ev"
        refine ⟨p, m, _, rfl, hm, by omega, hT5, by omega, fun a S6 ha0 ha1 hT6 hF6 => ?_⟩
        walk_at "ev"
        refine ⟨hF6 q hpq.symm _ (hF5 q hpq.symm _ (hF4 q hpq.symm _ hq3)), by rw [List.length_map]; omega, ?_⟩
        have hpl := pol_len (m := m) (xs := xs)
        refine ⟨net ++ [(pol m xs, a)], _, _, rfl, (hT6.put hpq).mono (by omega), by rw [put_same, map_snoc]; rfl, by rw [List.length_append, List.length_singleton, hl], fun s hs => ?_, ?_⟩
        · rcases List.mem_append.mp hs with hs | hs
          · exact hN s hs
          · rw [List.mem_singleton.mp hs]
            exact ⟨cn_pol hm, by show (pol m xs).length ≤ 4; omega, ha0, ha1⟩
        · intro b hb c' hc'
          by_cases hbq : b = q
          · subst hbq
            rw [hq] at hc'
            cases hc'
          · rw [put_ne hbq]
            exact hF6 b hb _ (hF5 b hb _ (hF4 b hb _ (hF3 b hb _ hc')))
    · rintro ⟨net, y5, y6, rfl, hT3, hq3, hl, hN, hF3⟩
      walk_at "ev"
      refine rk_tuple (sv_a hq3) ?_
      exact h net S3 hN (by omega) (by omega) (hT3.mono (by omega)) hF3
end
end Nf

set_option Elab.async false
set_option linter.all false
set_option maxRecDepth 100000
set_option maxHeartbeats 4000000
namespace Nf
open PySem PySem.Spec PyProof.Rows L2 RT RZ Mz
/-! what is shown -/
theorem shown24 : ∀ c : Fin 24, (PyData.shown (.int ((c.val : Nat) : Int))).length ≤ 13 := by decide +kernel
theorem show24 : ∀ c : Fin 24, (PyData.showable (.int ((c.val : Nat) : Int))) = true ∧ PyData.weight (.int ((c.val : Nat) : Int)) ≤ 5 := by decide +kernel
structure ShD (n : Nat) (d : Dt) : Prop where
  s : (toPy d).showable = true
  l : (toPy d).leavesShort 13 = true
  w : (toPy d).weight ≤ n
structure ShDs (n : Nat) (ds : List Dt) : Prop where
  s : PyData.showableAll (toPys ds) = true
  l : PyData.leavesShortAll 13 (toPys ds) = true
  w : PyData.weightAll (toPys ds) ≤ n
theorem shd_i {c : Int} (h0 : 0 ≤ c) (h1 : c < 24) : ShD 5 (.i c) := by
  have e : c = ((c.toNat : Nat) : Int) := by omega
  have a := shown24 ⟨c.toNat, by omega⟩
  have b := show24 ⟨c.toNat, by omega⟩
  rw [e]
  refine ⟨?_, ?_, ?_⟩
  · unfold toPy; exact b.1
  · unfold toPy PyData.leavesShort; exact decide_eq_true a
  · unfold toPy; exact b.2
theorem shds_nil : ShDs 0 [] := ⟨by unfold toPys PyData.showableAll; rfl, by unfold toPys PyData.leavesShortAll; rfl, by unfold toPys PyData.weightAll; exact Nat.le_refl _⟩
theorem shds_cons {n k : Nat} {d : Dt} {ds : List Dt} (h : ShD n d) (h2 : ShDs k ds) : ShDs (n + 1 + k) (d :: ds) := by
  refine ⟨?_, ?_, ?_⟩
  · unfold toPys PyData.showableAll; rw [h.s, h2.s]; rfl
  · unfold toPys PyData.leavesShortAll; rw [h.l, h2.l]; rfl
  · unfold toPys PyData.weightAll; have := h.w; have := h2.w; omega
theorem shd_t {n : Nat} {ds : List Dt} (h : ShDs n ds) : ShD n (.t ds) := ⟨by unfold toPy PyData.showable; exact h.s, by unfold toPy PyData.leavesShort; exact h.l, by unfold toPy PyData.weight; exact h.w⟩
theorem shds_of {α : Type} {enc : α → Dt} {n : Nat} : ∀ {l : List α}, (∀ x ∈ l, ShD n (enc x)) → ShDs ((n + 1) * l.length) (l.map enc)
  | [], _ => shds_nil
  | x :: l, h => by
    have := shds_cons (h x List.mem_cons_self) (shds_of (l := l) fun y hy => h y (List.mem_cons_of_mem _ hy))
    rw [List.length_cons, Nat.mul_add, Nat.mul_one, Nat.add_comm ((n + 1) * l.length)]
    exact this
theorem ShD.mono {n k : Nat} {d : Dt} (h : ShD n d) (e : n ≤ k) : ShD k d := ⟨h.s, h.l, Nat.le_trans h.w e⟩
theorem shd_tP {m : Int} {A : List (List Int)} (hm : m ≤ 24) (hr : RedR m A) (hz : Sz 8 A) : ShD 400 (tP A) := by
  have h1 : ∀ r ∈ A, ShD 48 (tI r) := fun r hr' => by
    refine (shd_t (shds_of (enc := Dt.i) (l := r) (n := 5) fun c hc => shd_i (hr r hr' c hc).1 (Int.lt_of_lt_of_le (hr r hr' c hc).2 hm))).mono ?_
    have := hz.2 r hr'
    omega
  refine (shd_t (shds_of (enc := tI) (l := A) h1)).mono ?_
  have := hz.1
  omega
theorem shd_two {m : Int} {A B : List (List Int)} (hm : m ≤ 24) (rA : RedR m A) (zA : Sz 8 A) (rB : RedR m B) (zB : Sz 8 B) : ShD 900 (.t [tP A, tP B]) :=
  (shd_t (shds_cons (shd_tP hm rA zA) (shds_cons (shd_tP hm rB zB) shds_nil))).mono (by decide)
theorem pl_two {A B : List (List Int)} : Pl 3 (.t [tP A, tP B]) := by
  unfold Pl Pls Pls Pls
  exact ⟨pl_tP, pl_tP, trivial⟩
theorem rc_repr {K : PySem.W.Frag} {S : Sto} {P : PD} {n k : Nat} {ds : List Dt} (h : Pl n (.t ds)) (hn : n ≤ 60) (hs : ShD k (.t ds)) (hk : k ≤ 100000) (p : P (.s (toPy (.t ds)).shown) S) : Rc K (rRepr K) [.t ds] S P := fun M H vs st r Q o => by
  obtain ⟨v, rfl, r1⟩ := r.one
  have hd := rep_dp st h r1
  obtain ⟨a, ws, rfl, _, _⟩ := r1.t_inv
  obtain ⟨c1, c2⟩ := pl_py h
  refine ⟨a, _, rfl, hd, hs.s, PyData.hasDict_of_canLay _ c1, by omega, ?_, o.at p st rep_s⟩
  have := PyData.shown_le 13 (by decide) _ hs.l
  have e : (13 + 2) * (toPy (.t ds)).weight ≤ 15 * 100000 := Nat.mul_le_mul_left 15 (Nat.le_trans hs.w hk)
  have e2 : sizeLine = 16777216 := sizeLine_eq
  omega
theorem ev_reprNe {K : PySem.W.Frag} {S : Sto} {P : PD} {x : Str} (p : P (.b false) S) : Rv K (rNeA K) (.s x) (.s x) S P := rv_nes (by rw [decide_eq_true rfl]; exact p)
/-! the plain facts that the law hangs on -/
def MOk (m : Int) : Prop := m ∈ [(2 : Int), 3, 4, 6, 8, 12, 24]
theorem MOk.bd {m : Int} (h : MOk m) : 1 < m ∧ m ≤ 24 := by
  unfold MOk at h
  simp only [List.mem_cons, List.not_mem_nil, or_false] at h
  omega
structure Fact (m : Int) (net : Net) : Prop where
  sm : Sm m
  smL : SmL m
  both : bothM m oX oY net = netW m oX oY net
  null : ∃ a b, nullM m (less2M m (upon2M m (netW m oX oY net).1 (netUV m net).1 (netUV m net).2) oX) = some a ∧ nullM m (less2M m (upon2M m (netW m oX oY net).2 (netUV m net).1 (netUV m net).2) oY) = some b ∧
    NullP m (less2M m (upon2M m (netW m oX oY net).1 (netUV m net).1 (netUV m net).2) oX) a ∧ NullP m (less2M m (upon2M m (netW m oX oY net).2 (netUV m net).1 (netUV m net).2) oY) b ∧
    NullQ m (addM m (putM m (netW m oX oY net).1 (netUV m net).1 (netUV m net).2) oX (-1)) a ∧ NullQ m (addM m (putM m (netW m oX oY net).2 (netUV m net).1 (netUV m net).2) oY (-1)) b
  rP : RedR m (netW m oX oY net).1
  rQ : RedR m (netW m oX oY net).2
  cU : Cn2 m (netUV m net).1
  cV : Cn2 m (netUV m net).2
  zP : Sz 1000 (putM m (netW m oX oY net).1 (netUV m net).1 (netUV m net).2)
  zQ : Sz 1000 (putM m (netW m oX oY net).2 (netUV m net).1 (netUV m net).2)
  lU : lleastM m (netUV m net).1 = (netUV m net).1
  lV : lleastM m (netUV m net).2 = (netUV m net).2
  fw : ∀ x y : Int, 0 ≤ x → x < m → 0 ≤ y → y < m → atM m (netW m oX oY net).1 x y = (netM m net x y).1 ∧ atM m (netW m oX oY net).2 x y = (netM m net x y).2
  bw : ∀ x y : Int, 0 ≤ x → x < m → 0 ≤ y → y < m → atM m (netUV m net).1 (netM m net x y).1 (netM m net x y).2 = x ∧ atM m (netUV m net).2 (netM m net x y).1 (netM m net x y).2 = y
def Facts : Prop := (∀ m net, MOk m → NetDr m net → net.length ≤ 6 → Fact m net) ∧ ∀ m net (x y : Int), MOk m → NetDr m net → 0 ≤ x → x < m → 0 ≤ y → y < m → unnetM m net (netM m net x y).1 (netM m net x y).2 = (x, y)
theorem sz_netUV {m : Int} (h : Sm m) : ∀ (l : Net) {p : List (List Int) × List (List Int)}, Sz 8 p.1 → Sz 8 p.2 → Sz 8 (l.foldl (fun p s => (least2M m (less2M m p.2 (wkM m s p.1)), p.1)) p).1 ∧ Sz 8 (l.foldl (fun p s => (least2M m (less2M m p.2 (wkM m s p.1)), p.1)) p).2
  | [], p, h1, h2 => ⟨h1, h2⟩
  | s :: l, p, h1, h2 => by
    rw [List.foldl_cons]
    exact sz_netUV h l ((h _).mono (by decide)) h1
theorem m_pick {ms : List Int} (hms : ∀ z ∈ ms, MOk z) {r : Int} (h0 : 0 ≤ r) (h1 : r < (ms.length : Int)) : ∃ m, atI (ms.map Dt.i) r = some (.i m) ∧ MOk m := by
  have hk : r.toNat < ms.length := by omega
  exact ⟨ms[r.toNat], atI_nn (j := r.toNat) (by omega) (by rw [List.getElem?_map, List.getElem?_eq_getElem hk]; rfl), hms _ (List.getElem_mem hk)⟩
theorem netM_app {m : Int} {n1 n2 : Net} {x y : Int} : netM m (n1 ++ n2) x y = netM m n2 (netM m n1 x y).1 (netM m n1 x y).2 := by
  unfold netM
  rw [List.foldl_append]
theorem NetDr.ok {m : Int} {net : Net} (h : NetDr m net) (hl : net.length ≤ 100) : NetOk m net := ⟨hl, fun s hs => ⟨(h s hs).1.1, Nat.le_trans (h s hs).2.1 (by decide)⟩⟩
theorem NetDr.app {m : Int} {a b : Net} (h1 : NetDr m a) (h2 : NetDr m b) : NetDr m (a ++ b) := fun s hs => (List.mem_append.mp hs).elim (h1 s) (h2 s)
section
variable {P : Program} {w : World} {K : PySem.W.Frag} {mg : Str → Option Value} {base : Heap}
theorem law_body (T : Txt K mg) (fx : Facts) {f : Addr} {cdv : Value} {s : Shared} {H : Hp} {E : XK} (hr : Room 8 (callerA.deeper (envOfC "law" (defScope s_law) s.heap.objs.size f cdv))) :
    ∃ t, PSs (cxOf CX0 P w K mg base ["_law_script", "_law_tape_here", "_law_turn", "_law_m", "_law_net_here", "_law_kp", "_law_kq", "_law_told", "_law_known", "_law_x", "_law_y", "_law_u", "_law_v", "_law_other", "_law_k", "_law_spot", "_law_last", "_law_longer"] "law" (defScope s_law) f cdv callerA [] s H E).nox (defBody s_law) t ∧
      ∀ xs : List Int, WP K t (stE 18 [lI xs]) nos (fun _ _ => False) (fun d _ => d = .b true) := by
  refine ⟨_,
(pss_cons (ps_set (i := 1) sc_law.nd rfl (.inl rfl) (pe_call (ok_law_tape T) (hr.mono (by decide)) (by rfl) T.d_law_tape.g T.d_law_tape.F.kp T.d_law_tape.b .nil pass0 (pa_cons (pv 0) pa_nil)))
      (pss_cons (ps_for PassesOwn.never rfl (pi_range1 (by rfl) T.b_range (pa_cons pe_int pa_nil)) (pg_name (i := 2) sc_law.nd rfl (.inl rfl)) (pss_cons (ps_set (i := 3) sc_law.nd rfl (.inl rfl) (pe_ix (k_ix K) (pe_lst (pa_cons pe_int (pa_cons pe_int (pa_cons pe_int (pa_cons pe_int (pa_cons pe_int (pa_cons pe_int (pa_cons pe_int (pa_cons pe_int (pa_cons pe_int pa_nil)))))))))) (pe_call (ok_law_draw T) (hr.mono (by decide)) (by rfl) T.d_law_draw.g T.d_law_draw.F.kp T.d_law_draw.b .nil pass0 (pa_cons (pv 1) (pa_cons pe_int pa_nil))) (fun _ _ => rfl)))
      (pss_cons (ps_set (i := 4) sc_law.nd rfl (.inl rfl) (pe_call (ok_law_net T) (hr.mono (by decide)) (by rfl) T.d_law_net.g T.d_law_net.F.kp T.d_law_net.b .nil pass0 (pa_cons (pv 1) (pa_cons (pv 3) (pa_cons pe_int (pa_cons pe_int pa_nil))))))
      (pss_cons (ps_if (pt_cmpR (k_eq K hr.units) (pe_call (ok_law_draw T) (hr.mono (by decide)) (by rfl) T.d_law_draw.g T.d_law_draw.F.kp T.d_law_draw.b .nil pass0 (pa_cons (pv 1) (pa_cons pe_int pa_nil))) pe_int (nomark _)) (pss_cons (ps_set (i := 3) sc_law.nd rfl (.inl rfl) (pe_ix (k_ix K) (pe_lst (pa_cons pe_int (pa_cons pe_int (pa_cons pe_int (pa_cons pe_int pa_nil))))) (pe_call (ok_law_draw T) (hr.mono (by decide)) (by rfl) T.d_law_draw.g T.d_law_draw.F.kp T.d_law_draw.b .nil pass0 (pa_cons (pv 1) (pa_cons pe_int pa_nil))) (fun _ _ => rfl)))
      (pss_one (ps_set (i := 4) sc_law.nd rfl (.inl rfl) (pe_call (ok_law_net T) (hr.mono (by decide)) (by rfl) T.d_law_net.g T.d_law_net.F.kp T.d_law_net.b .nil pass0 (pa_cons (pv 1) (pa_cons (pv 3) (pa_cons pe_int (pa_cons pe_int pa_nil)))))))) pss_nil)
      (pss_cons (ps_asg (pe_call (ok_law_both T) (hr.mono (by decide)) (by rfl) T.d_law_both.g T.d_law_both.F.kp T.d_law_both.b .nil pass0 (pa_cons (pv 3) (pa_cons (pv 4) pa_nil))) (k_gtup K (n := 2) rfl (pgs_cons (pg_name (i := 5) sc_law.nd rfl (.inl rfl)) (pgs_cons (pg_name (i := 6) sc_law.nd rfl (.inl rfl)) pgs_nil))))
      (pss_cons (ps_set (i := 7) sc_law.nd rfl (.inl rfl) (pe_call (ok_net_apart T) (hr.mono (by decide)) (by rfl) T.d_net_apart.g T.d_net_apart.F.kp T.d_net_apart.b .nil pass0 (pa_cons (pv 3) (pa_cons (pv 4) pa_nil))))
      (pss_cons (ps_if (PW.pt (pw_or (pt_cmpR (k_ne K hr.units) (pe_callB (call_reprD K rfl hr.units) (by rfl) T.b_repr (by decide +kernel) (pa_cons (pe_call (ok_net_whole T) (hr.mono (by decide)) (by rfl) T.d_net_whole.g T.d_net_whole.F.kp T.d_net_whole.b .nil pass0 (pa_cons (pv 3) (pa_cons (pv 4) pa_nil))) pa_nil)) (pe_callB (call_reprD K rfl hr.units) (by rfl) T.b_repr (by decide +kernel) (pa_cons (pe_tup (pa_cons (pv 5) (pa_cons (pv 6) pa_nil))) pa_nil)) (nomark _)) (pw_or1 (pt_not (pt_val (pe_call (ok_law_paper_right T) (hr.mono (by decide)) (by rfl) T.d_law_paper_right.g T.d_law_paper_right.F.kp T.d_law_paper_right.b .nil pass0 (pa_cons (pv 3) (pa_cons (pv 5) (pa_cons (pv 6) (pa_cons (pv 7) pa_nil)))))))))) (pss_one (ps_ret pe_bl)) pss_nil)
      (pss_cons (ps_if (pt_cmpR op_notBl (pe_call (ok_lets_apart T) (hr.mono (by decide)) (by rfl) T.d_lets_apart.g T.d_lets_apart.F.kp T.d_lets_apart.b .nil pass0 (pa_cons (pv 3) (pa_cons (pv 5) (pa_cons (pv 6) (pa_cons (pv 7) pa_nil))))) pe_bl (nomark _)) (pss_one (ps_ret pe_bl)) pss_nil)
      (pss_cons (ps_if (pt_cmpR (k_ne K hr.units) (pe_callB (call_reprD K rfl hr.units) (by rfl) T.b_repr (by decide +kernel) (pa_cons (pe_tup (pa_cons (pe_call (ok_law_least T) (hr.mono (by decide)) (by rfl) T.d_law_least.g T.d_law_least.F.kp T.d_law_least.b .nil pass0 (pa_cons (pv 3) (pa_cons (pe_ix (k_ix K) (pv 7) pe_int (fun _ _ => rfl)) pa_nil))) (pa_cons (pe_call (ok_law_least T) (hr.mono (by decide)) (by rfl) T.d_law_least.g T.d_law_least.F.kp T.d_law_least.b .nil pass0 (pa_cons (pv 3) (pa_cons (pe_ix (k_ix K) (pv 7) pe_int (fun _ _ => rfl)) pa_nil))) pa_nil))) pa_nil)) (pe_callB (call_reprD K rfl hr.units) (by rfl) T.b_repr (by decide +kernel) (pa_cons (pe_slice (k_slT K) (pv 7) (po_some pe_int) (po_some pe_int)) pa_nil)) (nomark _)) (pss_one (ps_ret pe_bl)) pss_nil)
      (pss_cons (ps_set (i := 8) sc_law.nd rfl (.inl rfl) pe_dnewT)
      (pss_cons (ps_for PassesOwn.never rfl (pi_range1 (by rfl) T.b_range (pa_cons (pv 3) pa_nil)) (pg_name (i := 9) sc_law.nd rfl (.inl rfl)) (pss_one (ps_for PassesOwn.never rfl (pi_range1 (by rfl) T.b_range (pa_cons (pv 3) pa_nil)) (pg_name (i := 10) sc_law.nd rfl (.inl rfl)) (pss_cons (ps_asg (pe_call (ok_netted T) (hr.mono (by decide)) (by rfl) T.d_netted.g T.d_netted.F.kp T.d_netted.b .nil pass0 (pa_cons (pv 3) (pa_cons (pv 4) (pa_cons (pv 9) (pa_cons (pv 10) pa_nil))))) (k_gtup K (n := 2) rfl (pgs_cons (pg_name (i := 11) sc_law.nd rfl (.inl rfl)) (pgs_cons (pg_name (i := 12) sc_law.nd rfl (.inl rfl)) pgs_nil))))
      (pss_cons (ps_if (pt_cmp (pc_din (hu_of hr) (pe_tup (pa_cons (pv 11) (pa_cons (pv 12) pa_nil))) (pv 8))) (pss_one (ps_ret pe_bl)) pss_nil)
      (pss_cons (ps_if (pt_cmpR (k_ne K hr.units) (pe_tup (pa_cons (pe_call (ok_law_at T) (hr.mono (by decide)) (by rfl) T.d_law_at.g T.d_law_at.F.kp T.d_law_at.b .nil pass0 (pa_cons (pv 3) (pa_cons (pe_ix (k_ix K) (pv 7) pe_int (fun _ _ => rfl)) (pa_cons (pv 11) (pa_cons (pv 12) pa_nil))))) (pa_cons (pe_call (ok_law_at T) (hr.mono (by decide)) (by rfl) T.d_law_at.g T.d_law_at.F.kp T.d_law_at.b .nil pass0 (pa_cons (pv 3) (pa_cons (pe_ix (k_ix K) (pv 7) pe_int (fun _ _ => rfl)) (pa_cons (pv 11) (pa_cons (pv 12) pa_nil))))) pa_nil))) (pe_tup (pa_cons (pv 9) (pa_cons (pv 10) pa_nil))) (nomark _)) (pss_one (ps_ret pe_bl)) pss_nil)
      (pss_cons (ps_if (pt_cmpR (k_ne K hr.units) (pe_tup (pa_cons (pe_call (ok_law_at T) (hr.mono (by decide)) (by rfl) T.d_law_at.g T.d_law_at.F.kp T.d_law_at.b .nil pass0 (pa_cons (pv 3) (pa_cons (pv 5) (pa_cons (pv 9) (pa_cons (pv 10) pa_nil))))) (pa_cons (pe_call (ok_law_at T) (hr.mono (by decide)) (by rfl) T.d_law_at.g T.d_law_at.F.kp T.d_law_at.b .nil pass0 (pa_cons (pv 3) (pa_cons (pv 6) (pa_cons (pv 9) (pa_cons (pv 10) pa_nil))))) pa_nil))) (pe_tup (pa_cons (pv 11) (pa_cons (pv 12) pa_nil))) (nomark _)) (pss_one (ps_ret pe_bl)) pss_nil)
      (pss_one (ps_dput (hu_of hr) (pv 8) (pe_tup (pa_cons (pv 11) (pa_cons (pv 12) pa_nil))) pe_bl rfl)))))))))
      (pss_cons (ps_set (i := 13) sc_law.nd rfl (.inl rfl) (pe_call (ok_law_net T) (hr.mono (by decide)) (by rfl) T.d_law_net.g T.d_law_net.F.kp T.d_law_net.b .nil pass0 (pa_cons (pv 1) (pa_cons (pv 3) (pa_cons pe_int (pa_cons (pe_callB (call_min2 rfl) (by rfl) T.b_min (by decide +kernel) (pa_cons pe_int (pa_cons (pe_op op_sub pe_int (pe_callB (k_len K) (by rfl) T.b_len (by decide +kernel) (pa_cons (pv 4) pa_nil))) pa_nil))) pa_nil))))))
      (pss_one (ps_for PassesOwn.never rfl (pi_range1 (by rfl) T.b_range (pa_cons pe_int pa_nil)) (pg_name (i := 14) sc_law.nd rfl (.inl rfl)) (pss_cons (ps_par (i := 9) (j := 10) rfl sc_law.nd rfl rfl (by decide) rfl rfl (pa_cons (pe_call (ok_law_draw T) (hr.mono (by decide)) (by rfl) T.d_law_draw.g T.d_law_draw.F.kp T.d_law_draw.b .nil pass0 (pa_cons (pv 1) (pa_cons (pv 3) pa_nil))) (pa_cons (pe_call (ok_law_draw T) (hr.mono (by decide)) (by rfl) T.d_law_draw.g T.d_law_draw.F.kp T.d_law_draw.b .nil pass0 (pa_cons (pv 1) (pa_cons (pv 3) pa_nil))) pa_nil)) (by rfl))
      (pss_cons (ps_set (i := 15) sc_law.nd rfl (.inl rfl) (pe_call (ok_netted T) (hr.mono (by decide)) (by rfl) T.d_netted.g T.d_netted.F.kp T.d_netted.b .nil pass0 (pa_cons (pv 3) (pa_cons (pv 4) (pa_cons (pv 9) (pa_cons (pv 10) pa_nil))))))
      (pss_cons (ps_set (i := 16) sc_law.nd rfl (.inl rfl) (pe_call (ok_netted T) (hr.mono (by decide)) (by rfl) T.d_netted.g T.d_netted.F.kp T.d_netted.b .nil pass0 (pa_cons (pv 3) (pa_cons (pv 13) (pa_cons (pe_ix (k_ix K) (pv 15) pe_int (fun _ _ => rfl)) (pa_cons (pe_ix (k_ix K) (pv 15) pe_int (fun _ _ => rfl)) pa_nil))))))
      (pss_cons (ps_set (i := 17) sc_law.nd rfl (.inl rfl) (pe_op (k_add K) (pv 4) (pv 13)))
      (pss_one (ps_if (PW.pt (pw_or (pt_cmpR (k_ne K hr.units) (pe_call (ok_netted T) (hr.mono (by decide)) (by rfl) T.d_netted.g T.d_netted.F.kp T.d_netted.b .nil pass0 (pa_cons (pv 3) (pa_cons (pv 17) (pa_cons (pv 9) (pa_cons (pv 10) pa_nil))))) (pv 16) (nomark _)) (pw_or1 (pt_cmpR (k_ne K hr.units) (pe_call (ok_unnetted T) (hr.mono (by decide)) (by rfl) T.d_unnetted.g T.d_unnetted.F.kp T.d_unnetted.b .nil pass0 (pa_cons (pv 3) (pa_cons (pv 17) (pa_cons (pe_ix (k_ix K) (pv 16) pe_int (fun _ _ => rfl)) (pa_cons (pe_ix (k_ix K) (pv 16) pe_int (fun _ _ => rfl)) pa_nil))))) (pe_tup (pa_cons (pv 9) (pa_cons (pv 10) pa_nil))) (nomark _))))) (pss_one (ps_ret pe_bl)) pss_nil))))))))))))))))))))
      (pss_one (ps_ret pe_bl))))
    , fun xs => ?_⟩
  walk_at "ev"
  refine ev_callS ?_
  walk_at "ev"
  refine ⟨xs, rfl, fun p hp S0 hT0 hF0 => ?_⟩
  refine wp_seq (wp_forI ?_)
  walk_at "ev"
  refine ⟨2, fun k sl S => ∃ (y2 y3 y4 y5 y6 y7 y8 y9 y10 y11 y12 y13 y14 y15 y16 y17 : Option Dt), sl = [some (lI xs), some (.a p), y2, y3, y4, y5, y6, y7, y8, y9, y10, y11, y12, y13, y14, y15, y16, y17] ∧ TapeAt S p (1000 * k), rfl, by decide,
    ⟨none, none, none, none, none, none, none, none, none, none, none, none, none, none, none, none, rfl, hT0⟩, fun k sl S hk => ?_, fun sl S => ?_⟩
  · rintro ⟨y2, y3, y4, y5, y6, y7, y8, y9, y10, y11, y12, y13, y14, y15, y16, y17, rfl, hT⟩
    refine wp_seq (wp_asg (Ev.mono (P' := fun d S' => ∃ m, d = .i m ∧ MOk m ∧ TapeAt S' p (1000 * k + 1)) ?_ ?_))
    · refine ev_op ?_
      refine ev_lst ?_
      walk_at "ev"
      refine ⟨by simp, ?_⟩
      refine ev_callS ?_
      walk_at "ev"
      refine ⟨p, 9, _, rfl, by decide, by decide, hT, by omega, fun r S1 h0 h1 hT1 _ => ?_⟩
      obtain ⟨m, e1, e2⟩ := m_pick (ms := [2, 3, 4, 6, 8, 12, 24, 3, 6]) (by intro z hz; unfold MOk; simp only [List.mem_cons, List.not_mem_nil, or_false] at *; omega) h0 h1
      exact rv_ix sv_l e1 ⟨m, rfl, e2, hT1⟩
    rintro d S1 ⟨m, rfl, hm, hT1⟩
    have hmb := hm.bd
    walk_at "ev"
    refine ev_callS ?_
    walk_at "ev"
    refine ⟨p, m, 0, 4, _, rfl, by omega, by omega, by decide, by decide, hT1, by omega, fun net S2 hN hl0 hl1 hT2 _ => ?_⟩
    refine wp_seq (WP.mono (N' := fun sl' S' => ∃ (m : Int) (net : Net), sl' = [some (lI xs), some (.a p), some (.i (k : Int)), some (.i m), some (tN net), y5, y6, y7, y8, y9, y10, y11, y12, y13, y14, y15, y16, y17] ∧ MOk m ∧ NetDr m net ∧ net.length ≤ 6 ∧ TapeAt S' p (1000 * k + 500)) (R' := fun _ _ => False) ?_ ?_ fun _ _ z => z.elim)
    · walk_at "ev"
      refine ev_callS ?_
      walk_at "ev"
      refine ⟨p, 8, _, rfl, by decide, by decide, hT2, by omega, fun r S3 h0 h1 hT3 _ => ?_⟩
      walk_at "ev"
      refine dd2 (fun _ => ?_) (fun _ => ?_)
      · refine wp_seq (wp_asg (Ev.mono (P' := fun d S' => ∃ m, d = .i m ∧ MOk m ∧ TapeAt S' p (1000 * k + 300)) ?_ ?_))
        · refine ev_op ?_
          refine ev_lst ?_
          walk_at "ev"
          refine ⟨by simp, ?_⟩
          refine ev_callS ?_
          walk_at "ev"
          refine ⟨p, 4, _, rfl, by decide, by decide, hT3, by omega, fun r S1 h0 h1 hT1 _ => ?_⟩
          obtain ⟨m, e1, e2⟩ := m_pick (ms := [2, 3, 4, 6]) (by intro z hz; unfold MOk; simp only [List.mem_cons, List.not_mem_nil, or_false] at *; omega) h0 h1
          exact rv_ix sv_l e1 ⟨m, rfl, e2, hT1.mono (by omega)⟩
        rintro d S4 ⟨m', rfl, hm', hT4⟩
        have hmb' := hm'.bd
        walk_at "ev"
        refine ev_callS ?_
        walk_at "ev"
        refine ⟨p, m', 5, 6, _, rfl, by omega, by omega, by decide, by decide, hT4, by omega, fun net' S5 hN' hl0' hl1' hT5 _ => ?_⟩
        exact ⟨m', net', rfl, hm', hN', hl1', hT5.mono (by omega)⟩
      · exact wp_next ⟨m, net, rfl, hm, hN, by omega, hT3.mono (by omega)⟩
    clear hT1 hT2 hN hl0 hl1 hm hmb
    rintro sl' S3 ⟨m, net, rfl, hm, hN, hl, hT3⟩
    have hmb := hm.bd
    have hF := fx.1 m net hm hN hl
    have hok : NetOk m net := hN.ok (by omega)
    obtain ⟨a, b, hna, hnb, hPa, hPb, hQa, hQb⟩ := hF.null
    have zW := sz_netW hF.sm net sz_oX sz_oY
    have zUV : Sz 8 (netUV m net).1 ∧ Sz 8 (netUV m net).2 := sz_netUV hF.sm net.reverse (p := (oX, oY)) sz_oX sz_oY
    have hboth := hF.both
    have rP := hF.rP
    have rQ := hF.rQ
    have cU := hF.cU
    have cV := hF.cV
    have zP := hF.zP
    have zQ := hF.zQ
    have lU := hF.lU
    have lV := hF.lV
    have fw := hF.fw
    have bw := hF.bw
    have hwh : ∀ d, d = Dt.t [tP (netW m oX oY net).1, tP (netW m oX oY net).2] → d = Dt.t [tP (netW m oX oY net).1, tP (netW m oX oY net).2] := fun d h => h
    refine wp_seq (wp_asgG (tg_tup (js := [5, 6]) rfl) ?_)
    walk_at "ev"
    refine ⟨_, ⟨m, net, rfl, by omega, by omega, hF.smL, hN, by omega, rfl⟩, ?_⟩
    rw [hboth]
    refine ⟨_, ⟨rfl, rfl⟩, ?_⟩
    walk_at "ev"
    refine ⟨_, ⟨m, net, rfl, by omega, by omega, hF.sm, hok, rfl⟩, ?_⟩
    unfold apartD
    rw [hna, hnb]
    rw [show encO (some a) = tP a from rfl, show encO (some b) = tP b from rfl]
    have hsm := hF.sm
    have hNW : ∀ r, r = Dt.t [tP (netW m oX oY net).1, tP (netW m oX oY net).2] → R_net_whole [.i m, tN net] r := fun r h => ⟨m, net, rfl, by omega, by omega, hsm, hok, h⟩
    have hNE : ∀ x y : Int, R_netted [.i m, tN net, .i x, .i y] (.t [.i (netM m net x y).1, .i (netM m net x y).2]) := fun x y => ⟨m, net, x, y, rfl, by omega, by omega, hok, rfl⟩
    clear hF hboth hna hnb
    generalize (netW m oX oY net).1 = A at *
    generalize (netW m oX oY net).2 = B at *
    generalize (netUV m net).1 = U at *
    generalize (netUV m net).2 = V at *
    refine wp_seq (WP.mono (N' := fun sl' S' => sl' = [some (lI xs), some (.a p), some (.i (k : Int)), some (.i m), some (tN net), some (tP A), some (tP B), some (.t [.s sApart, tP U, tP V, tP a, tP b]), y8, y9, y10, y11, y12, y13, y14, y15, y16, y17] ∧ TapeAt S' p (1000 * k + 500)) (R' := fun _ _ => False) ?_ ?_ fun _ _ z => z.elim)
    · walk_at "ev"
      refine ⟨_, hNW _ rfl, ?_⟩
      walk_at "ev"
      refine rc_repr pl_two (by decide) (shd_two (m := m) (by omega) rP zW.1 rQ zW.2) (by decide) ?_
      walk_at "ev"
      refine rc_repr pl_two (by decide) (shd_two (m := m) (by omega) rP zW.1 rQ zW.2) (by decide) ?_
      refine ev_reprNe ?_
      walk_at "ev"
      refine ⟨_, ⟨m, A, B, U, V, a, b, rfl, by omega, by omega, zW.1, zW.2, zUV.1, zUV.2, rP.mono (by omega), rQ.mono (by omega), cU, cV, zP, zQ, hQa, hQb, rfl⟩, ?_⟩
      walk_at "ev"
      exact wp_next ⟨rfl, hT3⟩
    rintro sl' S4 ⟨rfl, hT4⟩
    refine wp_seq (WP.mono (N' := fun sl' S' => sl' = [some (lI xs), some (.a p), some (.i (k : Int)), some (.i m), some (tN net), some (tP A), some (tP B), some (.t [.s sApart, tP U, tP V, tP a, tP b]), y8, y9, y10, y11, y12, y13, y14, y15, y16, y17] ∧ TapeAt S' p (1000 * k + 500)) (R' := fun _ _ => False) ?_ ?_ fun _ _ z => z.elim)
    · walk_at "ev"
      refine ⟨_, ⟨m, A, B, U, V, a, b, rfl, by omega, by omega, zW.1, zW.2, zUV.1, zUV.2, cU, cV, hPa, hPb, rfl⟩, ?_⟩
      walk_at "ev"
      refine nd2 (fun _ => ?_) (fun z => absurd rfl z)
      exact wp_next ⟨rfl, hT4⟩
    rintro sl' S5 ⟨rfl, hT5⟩
    refine wp_seq (WP.mono (N' := fun sl' S' => sl' = [some (lI xs), some (.a p), some (.i (k : Int)), some (.i m), some (tN net), some (tP A), some (tP B), some (.t [.s sApart, tP U, tP V, tP a, tP b]), y8, y9, y10, y11, y12, y13, y14, y15, y16, y17] ∧ TapeAt S' p (1000 * k + 500)) (R' := fun _ _ => False) ?_ ?_ fun _ _ z => z.elim)
    · walk_at "ev"
      refine rv_ix sv_t (atI_nn (j := 1) rfl rfl) ?_
      walk_at "ev"
      refine ⟨_, ⟨m, U, rfl, by omega, by omega, zUV.1.mono (by decide), rfl⟩, ?_⟩
      walk_at "ev"
      refine rv_ix sv_t (atI_nn (j := 2) rfl rfl) ?_
      walk_at "ev"
      refine ⟨_, ⟨m, V, rfl, by omega, by omega, zUV.2.mono (by decide), rfl⟩, ?_⟩
      rw [lU, lV]
      have rU : RedR m U := fun r hr => (cU.1 r hr).1
      have rV : RedR m V := fun r hr => (cV.1 r hr).1
      walk_at "ev"
      refine rc_repr pl_two (by decide) (shd_two (m := m) (by omega) rU zUV.1 rV zUV.2) (by decide) ?_
      walk_at "ev"
      refine ev_slT ?_
      walk_at "ev"
      refine eo_some ?_
      walk_at "ev"
      refine ⟨_, rfl, eo_some ?_⟩
      walk_at "ev"
      refine ⟨_, rfl, _, rfl, ?_⟩
      rw [show cutD [Dt.s sApart, tP U, tP V, tP a, tP b] (some 1) (some 3) = [tP U, tP V] from rfl]
      walk_at "ev"
      refine rc_repr pl_two (by decide) (shd_two (m := m) (by omega) rU zUV.1 rV zUV.2) (by decide) ?_
      refine ev_reprNe ?_
      walk_at "ev"
      exact wp_next ⟨rfl, hT5⟩
    rintro sl' S6 ⟨rfl, hT6⟩
    refine wp_seq (wp_asg ?_)
    refine ev_dnewT fun q hq => ?_
    have hpq : p ≠ q := fun z => by
      obtain ⟨c, s, l, h1, h2⟩ := hT6
      rw [z, hq] at h1
      cases h1
    have hT7 : TapeAt (S6.put q (.d [])) p (1000 * k + 500) := hT6.put hpq
    have hq7 : (S6.put q (.d [])) q = some (.d []) := put_same
    generalize S6.put q (.d []) = S7 at hT7 hq7 ⊢
    refine wp_seq (wp_forI ?_)
    walk_at "ev"
    refine ⟨m.toNat, fun X sl S => ∃ (ks : List (Int × Int)) (y9 y10 y11 y12 : Option Dt), sl = [some (lI xs), some (.a p), some (.i (k : Int)), some (.i m), some (tN net), some (tP A), some (tP B), some (.t [.s sApart, tP U, tP V, tP a, tP b]), some (.a q), y9, y10, y11, y12, y13, y14, y15, y16, y17] ∧ TapeAt S p (1000 * k + 500) ∧
      S q = some (.d ks) ∧ ks.length ≤ X * m.toNat ∧ ∀ z ∈ ks, ∃ x y : Int, 0 ≤ x ∧ x < (X : Int) ∧ 0 ≤ y ∧ y < m ∧ z = netM m net x y,
      by congr 2; omega, by omega, ⟨[], y9, y10, y11, y12, rfl, hT7, hq7, Nat.zero_le _, fun z hz => nomatch hz⟩, fun X sl S hX => ?_, fun sl S => ?_⟩
    · rintro ⟨ks, y9, y10, y11, y12, rfl, hT8, hq8, hks, hin⟩
      refine wp_forI ?_
      walk_at "ev"
      refine ⟨m.toNat, fun Y sl S => ∃ (ks : List (Int × Int)) (y10 y11 y12 : Option Dt), sl = [some (lI xs), some (.a p), some (.i (k : Int)), some (.i m), some (tN net), some (tP A), some (tP B), some (.t [.s sApart, tP U, tP V, tP a, tP b]), some (.a q), some (.i (X : Int)), y10, y11, y12, y13, y14, y15, y16, y17] ∧ TapeAt S p (1000 * k + 500) ∧
        S q = some (.d ks) ∧ ks.length ≤ X * m.toNat + Y ∧ ∀ z ∈ ks, ∃ x y : Int, 0 ≤ x ∧ (x < (X : Int) ∧ 0 ≤ y ∧ y < m ∨ x = (X : Int) ∧ 0 ≤ y ∧ y < (Y : Int)) ∧ z = netM m net x y,
        by congr 2; omega, by omega, ⟨ks, y10, y11, y12, rfl, hT8, hq8, hks, fun z hz => ?_⟩, fun Y sl S hY => ?_, fun sl S => ?_⟩
      · obtain ⟨x, y, h1, h2, h3, h4, h5⟩ := hin z hz
        exact ⟨x, y, h1, .inl ⟨h2, h3, h4⟩, h5⟩
      · rintro ⟨ks, y10, y11, y12, rfl, hT9, hq9, hks, hin⟩
        have hXm : (X : Int) < m := by omega
        have hYm : (Y : Int) < m := by omega
        have hb1 := bw X Y (by omega) hXm (by omega) hYm
        have hf1 := fw X Y (by omega) hXm (by omega) hYm
        have hnew : netM m net X Y ∉ ks := fun z => by
          obtain ⟨x, y, h1, h2, h3⟩ := hin _ z
          have h4 : x < m ∧ 0 ≤ y ∧ y < m := by rcases h2 with h2 | h2 <;> omega
          have hb2 := bw x y h1 h4.1 h4.2.1 h4.2.2
          rw [← h3, hb1.1, hb1.2] at hb2
          rcases h2 with h2 | h2 <;> omega
        have hkb : X * m.toNat + Y ≤ 100000 := by
          have := Nat.mul_le_mul (show X ≤ 24 by omega) (show m.toNat ≤ 24 by omega)
          omega
        refine wp_seq (wp_asgG (tg_tup (js := [11, 12]) rfl) ?_)
        walk_at "ev"
        refine ⟨_, hNE X Y, ?_⟩
        refine ⟨_, ⟨rfl, rfl⟩, ?_⟩
        generalize hz : netM m net X Y = z at *
        obtain ⟨u, v⟩ := z
        refine wp_seq (WP.mono (N' := fun sl' S' => sl' = [some (lI xs), some (.a p), some (.i (k : Int)), some (.i m), some (tN net), some (tP A), some (tP B), some (.t [.s sApart, tP U, tP V, tP a, tP b]), some (.a q), some (.i (X : Int)), some (.i (Y : Int)), some (.i u), some (.i v), y13, y14, y15, y16, y17] ∧ TapeAt S' p (1000 * k + 500) ∧ S' q = some (.d ks)) (R' := fun _ _ => False) ?_ ?_ fun _ _ z => z.elim)
        · refine wp_if ?_
          refine et_test ?_
          refine ev_dinT ?_
          walk_at "ev"
          refine ⟨u, v, q, ks, rfl, rfl, hq9, ?_⟩
          rw [decide_eq_false hnew]
          walk_at "ev"
          exact wp_next ⟨rfl, hT9, hq9⟩
        rintro sl' S10 ⟨rfl, hT10, hq10⟩
        refine wp_seq (WP.mono (N' := fun sl' S' => sl' = [some (lI xs), some (.a p), some (.i (k : Int)), some (.i m), some (tN net), some (tP A), some (tP B), some (.t [.s sApart, tP U, tP V, tP a, tP b]), some (.a q), some (.i (X : Int)), some (.i (Y : Int)), some (.i u), some (.i v), y13, y14, y15, y16, y17] ∧ TapeAt S' p (1000 * k + 500) ∧ S' q = some (.d ks)) (R' := fun _ _ => False) ?_ ?_ fun _ _ z => z.elim)
        · walk_at "ev"
          refine rv_ix sv_t (atI_nn (j := 1) rfl rfl) ?_
          walk_at "ev"
          refine ⟨_, ⟨m, U, u, v, rfl, by omega, by omega, rfl⟩, ?_⟩
          walk_at "ev"
          refine rv_ix sv_t (atI_nn (j := 2) rfl rfl) ?_
          walk_at "ev"
          refine ⟨_, ⟨m, V, u, v, rfl, by omega, by omega, rfl⟩, ?_⟩
          walk_at "ev"
          rw [hb1.1, hb1.2]
          refine rv_ned (n := 1) (m := 1) (by unfold Pl Pls Pls Pls; exact ⟨pl_i, pl_i, trivial⟩) (by unfold Pl Pls Pls Pls; exact ⟨pl_i, pl_i, trivial⟩) (by decide) (by decide) (fun h => ?_) (fun h => absurd rfl h)
          walk_at "ev"
          exact wp_next ⟨rfl, hT10, hq10⟩
        rintro sl' S11 ⟨rfl, hT11, hq11⟩
        refine wp_seq (WP.mono (N' := fun sl' S' => sl' = [some (lI xs), some (.a p), some (.i (k : Int)), some (.i m), some (tN net), some (tP A), some (tP B), some (.t [.s sApart, tP U, tP V, tP a, tP b]), some (.a q), some (.i (X : Int)), some (.i (Y : Int)), some (.i u), some (.i v), y13, y14, y15, y16, y17] ∧ TapeAt S' p (1000 * k + 500) ∧ S' q = some (.d ks)) (R' := fun _ _ => False) ?_ ?_ fun _ _ z => z.elim)
        · walk_at "ev"
          refine ⟨_, ⟨m, A, X, Y, rfl, by omega, by omega, rfl⟩, ?_⟩
          walk_at "ev"
          refine ⟨_, ⟨m, B, X, Y, rfl, by omega, by omega, rfl⟩, ?_⟩
          walk_at "ev"
          rw [hf1.1, hf1.2]
          refine rv_ned (n := 1) (m := 1) (by unfold Pl Pls Pls Pls; exact ⟨pl_i, pl_i, trivial⟩) (by unfold Pl Pls Pls Pls; exact ⟨pl_i, pl_i, trivial⟩) (by decide) (by decide) (fun h => ?_) (fun h => absurd rfl h)
          walk_at "ev"
          exact wp_next ⟨rfl, hT11, hq11⟩
        rintro sl' S12 ⟨rfl, hT12, hq12⟩
        refine wp_dputT ⟨q, rfl, ?_⟩
        walk_at "ev"
        refine ⟨u, v, ks, rfl, hq12, hnew, by omega, ?_⟩
        refine ⟨ks ++ [(u, v)], _, _, _, rfl, hT12.put hpq, put_same, by rw [List.length_append, List.length_singleton]; omega, fun z hz' => ?_⟩
        rcases List.mem_append.mp hz' with h | h
        · obtain ⟨x, y, h1, h2, h3⟩ := hin z h
          exact ⟨x, y, h1, by rcases h2 with h2 | h2 <;> omega, h3⟩
        · rw [List.mem_singleton.mp h]
          exact ⟨X, Y, by omega, .inr ⟨rfl, by omega, by omega⟩, hz.symm⟩
      · rintro ⟨ks, y10, y11, y12, rfl, hT9, hq9, hks, hin⟩
        refine ⟨ks, _, _, _, _, rfl, hT9, hq9, by rw [Nat.add_mul, Nat.one_mul]; exact hks, fun z hz => ?_⟩
        obtain ⟨x, y, h1, h2, h3⟩ := hin z hz
        exact ⟨x, y, h1, by rcases h2 with h2 | h2 <;> omega, by rcases h2 with h2 | h2 <;> omega, by rcases h2 with h2 | h2 <;> omega, h3⟩
    · rintro ⟨ks, y9, y10, y11, y12, rfl, hT8, _, _, _⟩
      clear hNW rP rQ cU cV zP zQ lU lV fw bw hPa hPb hQa hQb
      walk_at "ev"
      refine ev_callS ?_
      walk_at "ev"
      refine ⟨p, m, 0, min 2 (6 - net.length), _, by rw [show (min 2 (6 - (((net.map enS).length : Nat) : Int)) : Int) = ((min 2 (6 - net.length) : Nat) : Int) by rw [List.length_map]; omega]; rfl, by omega, by omega, Nat.zero_le _, by omega, hT8, by omega, fun other S9 hN2 _ hl2 hT9 _ => ?_⟩
      have hok2 : NetOk m other := hN2.ok (by omega)
      have hok3 : NetOk m (net ++ other) := (hN.app hN2).ok (by rw [List.length_append]; omega)
      walk_at "ev"
      refine wp_forI ?_
      walk_at "ev"
      refine ⟨6, fun j sl S => ∃ (y9 y10 y14 y15 y16 y17 : Option Dt), sl = [some (lI xs), some (.a p), some (.i (k : Int)), some (.i m), some (tN net), some (tP A), some (tP B), some (.t [.s sApart, tP U, tP V, tP a, tP b]), some (.a q), y9, y10, y11, y12, some (tN other), y14, y15, y16, y17] ∧ TapeAt S p (1000 * k + 700 + 2 * j),
        rfl, by decide, ⟨_, _, _, _, _, _, rfl, hT9.mono (by omega)⟩, fun j sl S hj => ?_, fun sl S => ?_⟩
      · rintro ⟨y9, y10, y14, y15, y16, y17, rfl, hT10⟩
        refine wp_seq (wp_par ?_)
        walk_at "ev"
        refine ev_callS ?_
        walk_at "ev"
        refine ⟨p, m, _, rfl, by omega, by omega, hT10, by omega, fun x S11 hx0 hx1 hT11 _ => ?_⟩
        walk_at "ev"
        refine ev_callS ?_
        walk_at "ev"
        refine ⟨p, m, _, rfl, by omega, by omega, hT11, by omega, fun y S12 hy0 hy1 hT12 _ => ?_⟩
        walk_at "ev"
        refine ⟨_, _, rfl, ?_⟩
        walk_at "ev"
        refine ⟨_, hNE x y, ?_⟩
        walk_at "ev"
        refine rv_ix sv_t (atI_nn (j := 0) rfl rfl) ?_
        walk_at "ev"
        refine rv_ix sv_t (atI_nn (j := 1) rfl rfl) ?_
        walk_at "ev"
        refine ⟨_, ⟨m, other, _, _, rfl, by omega, by omega, hok2, rfl⟩, ?_⟩
        rw [← netM_app]
        walk_at "ev"
        refine rv_addT (ds := net.map enS) (es := other.map enS) (by rw [List.length_map, List.length_map]; omega) ?_
        have eapp : Dt.t (net.map enS ++ other.map enS) = tN (net ++ other) := by unfold tN; rw [List.map_append]
        rw [eapp]
        have hun := fx.2 m (net ++ other) x y hm (hN.app hN2) hx0 hx1 hy0 hy1
        walk_at "ev"
        refine ⟨_, ⟨m, net ++ other, x, y, rfl, by omega, by omega, hok3, rfl⟩, ?_⟩
        walk_at "ev"
        refine rv_ned (n := 1) (m := 1) (by unfold Pl Pls Pls Pls; exact ⟨pl_i, pl_i, trivial⟩) (by unfold Pl Pls Pls Pls; exact ⟨pl_i, pl_i, trivial⟩) (by decide) (by decide) (fun h => ?_) (fun h => absurd rfl h)
        walk_at "ev"
        refine rv_ix sv_t (atI_nn (j := 0) rfl rfl) ?_
        walk_at "ev"
        refine rv_ix sv_t (atI_nn (j := 1) rfl rfl) ?_
        walk_at "ev"
        refine ⟨_, ⟨m, net ++ other, _, _, rfl, by omega, by omega, hok3, rfl⟩, ?_⟩
        rw [hun]
        walk_at "ev"
        refine rv_ned (n := 1) (m := 1) (by unfold Pl Pls Pls Pls; exact ⟨pl_i, pl_i, trivial⟩) (by unfold Pl Pls Pls Pls; exact ⟨pl_i, pl_i, trivial⟩) (by decide) (by decide) (fun h => ?_) (fun h => absurd rfl h)
        walk_at "ev"
        refine wp_next ?_
        exact ⟨_, _, _, _, _, _, rfl, hT12.mono (by omega)⟩
      · rintro ⟨y9, y10, y14, y15, y16, y17, rfl, hT10⟩
        exact ⟨_, _, _, _, _, _, _, _, _, _, _, _, _, _, _, _, rfl, hT10.mono (by omega)⟩
  · rintro ⟨y2, y3, y4, y5, y6, y7, y8, y9, y10, y11, y12, y13, y14, y15, y16, y17, rfl, hT⟩
    walk_at "ev"
    rfl
end
end Nf

set_option Elab.async false
set_option linter.all false
/-! Plain mathematics, first part: polynomials of two letters as functions, alike up to m times one; canonical ones alike are the same. -/
namespace Nf
open Mz
abbrev Fn := Int → Int → Int
def ev1 : List Int → Int → Int
  | [], _ => 0
  | c :: f, y => c + y * ev1 f y
def ev2 : List (List Int) → Fn
  | [], _, _ => 0
  | r :: P, x, y => ev1 r y + x * ev2 P x y
theorem ev1_cons {c : Int} {f : List Int} {y : Int} : ev1 (c :: f) y = c + y * ev1 f y := rfl
theorem ev2_cons {r : List Int} {P : List (List Int)} {x y : Int} : ev2 (r :: P) x y = ev1 r y + x * ev2 P x y := rfl
/-! whole polynomials -/
def addZ : List Int → List Int → List Int
  | [], g => g
  | f, [] => f
  | a :: f, b :: g => (a + b) :: addZ f g
theorem ev_addZ : ∀ (f g : List Int) (y : Int), ev1 (addZ f g) y = ev1 f y + ev1 g y
  | [], g, y => by rw [addZ]; simp [ev1]
  | a :: f, [], y => by
    show ev1 (a :: f) y = ev1 (a :: f) y + 0
    omega
  | a :: f, b :: g, y => by
    rw [addZ, ev1_cons, ev1_cons, ev1_cons, ev_addZ f g y]
    grind
def addZ2 : List (List Int) → List (List Int) → List (List Int)
  | [], g => g
  | f, [] => f
  | a :: f, b :: g => addZ a b :: addZ2 f g
theorem ev_addZ2 : ∀ (f g : List (List Int)) (x y : Int), ev2 (addZ2 f g) x y = ev2 f x y + ev2 g x y
  | [], g, x, y => by rw [addZ2]; simp [ev2]
  | a :: f, [], x, y => by
    show ev2 (a :: f) x y = ev2 (a :: f) x y + 0
    omega
  | a :: f, b :: g, x, y => by
    rw [addZ2, ev2_cons, ev2_cons, ev2_cons, ev_addZ2 f g x y, ev_addZ]
    grind
theorem ev_scale {c : Int} : ∀ (f : List Int) (y : Int), ev1 (f.map (c * ·)) y = c * ev1 f y
  | [], y => by simp [ev1]
  | a :: f, y => by
    rw [List.map_cons, ev1_cons, ev1_cons, ev_scale f y]
    grind
def mulZ : List Int → List Int → List Int
  | [], _ => []
  | a :: f, g => addZ (g.map (a * ·)) (0 :: mulZ f g)
theorem ev_mulZ : ∀ (f g : List Int) (y : Int), ev1 (mulZ f g) y = ev1 f y * ev1 g y
  | [], g, y => by simp [mulZ, ev1]
  | a :: f, g, y => by
    rw [mulZ, ev_addZ, ev_scale, ev1_cons, ev1_cons, ev_mulZ f g y]
    grind
theorem ev_rowZ {r : List Int} : ∀ (Q : List (List Int)) (x y : Int), ev2 (Q.map (mulZ r)) x y = ev1 r y * ev2 Q x y
  | [], x, y => by simp [ev2]
  | q :: Q, x, y => by
    rw [List.map_cons, ev2_cons, ev2_cons, ev_rowZ Q x y, ev_mulZ]
    grind
def mulZ2 : List (List Int) → List (List Int) → List (List Int)
  | [], _ => []
  | a :: f, g => addZ2 (g.map (mulZ a)) ([] :: mulZ2 f g)
theorem ev_mulZ2 : ∀ (f g : List (List Int)) (x y : Int), ev2 (mulZ2 f g) x y = ev2 f x y * ev2 g x y
  | [], g, x, y => by simp [mulZ2, ev2]
  | a :: f, g, x, y => by
    rw [mulZ2, ev_addZ2, ev_rowZ, ev2_cons, ev2_cons, ev_mulZ2 f g x y]
    simp only [ev1]
    grind
def IsP (F : Fn) : Prop := ∃ G, ∀ x y, F x y = ev2 G x y
theorem isP_ev2 {P : List (List Int)} : IsP (ev2 P) := ⟨P, fun _ _ => rfl⟩
theorem isP_c {c : Int} : IsP fun _ _ => c := ⟨[[c]], fun x y => by simp [ev2, ev1]⟩
theorem isP_x : IsP fun x _ => x := ⟨[[], [1]], fun x y => by simp [ev2, ev1]⟩
theorem isP_y : IsP fun _ y => y := ⟨[[0, 1]], fun x y => by simp [ev2, ev1]⟩
theorem IsP.add {F G : Fn} : IsP F → IsP G → IsP fun x y => F x y + G x y := fun ⟨f, hf⟩ ⟨g, hg⟩ => ⟨addZ2 f g, fun x y => by dsimp only; rw [ev_addZ2, hf, hg]⟩
theorem IsP.mul {F G : Fn} : IsP F → IsP G → IsP fun x y => F x y * G x y := fun ⟨f, hf⟩ ⟨g, hg⟩ => ⟨mulZ2 f g, fun x y => by dsimp only; rw [ev_mulZ2, hf, hg]⟩
theorem IsP.of {F G : Fn} (h : IsP G) (e : ∀ x y, F x y = G x y) : IsP F := h.elim fun g hg => ⟨g, fun x y => by rw [e, hg]⟩
theorem IsP.neg {F : Fn} (h : IsP F) : IsP fun x y => -F x y := ((isP_c (c := -1)).mul h).of fun x y => by grind
theorem IsP.sub {F G : Fn} (h : IsP F) (h2 : IsP G) : IsP fun x y => F x y - G x y := (h.add h2.neg).of fun x y => by grind
theorem isP_e1 : ∀ {f : List Int} {A : Fn}, IsP A → IsP fun x y => ev1 f (A x y)
  | [], A, _ => (isP_c (c := 0)).of fun x y => rfl
  | c :: f, A, h => ((isP_c (c := c)).add (h.mul (isP_e1 (f := f) h))).of fun x y => rfl
theorem isP_e2 : ∀ {P : List (List Int)} {A B : Fn}, IsP A → IsP B → IsP fun x y => ev2 P (A x y) (B x y)
  | [], A, B, _, _ => (isP_c (c := 0)).of fun x y => rfl
  | r :: P, A, B, h, h2 => ((isP_e1 (f := r) h2).add (h.mul (isP_e2 (P := P) h h2))).of fun x y => rfl
theorem IsP.comp {F A B : Fn} (h : IsP F) (hA : IsP A) (hB : IsP B) : IsP fun x y => F (A x y) (B x y) := h.elim fun g hg => (isP_e2 (P := g) hA hB).of fun x y => hg _ _
theorem IsP.pow {F : Fn} (h : IsP F) : ∀ n : Nat, IsP fun x y => F x y ^ n
  | 0 => (isP_c (c := 1)).of fun x y => Int.pow_zero _
  | n + 1 => ((IsP.pow h n).mul h).of fun x y => Int.pow_succ _ _
/-! alike -/
def Cg (m : Int) (F F' : Fn) : Prop := ∃ G, IsP G ∧ ∀ x y, F x y = F' x y + m * G x y
section
variable {m : Int} {F F' F2 E E' A B : Fn}
theorem Cg.rfl' : Cg m F F := ⟨_, isP_c (c := 0), fun x y => by simp⟩
theorem Cg.of (h : ∀ x y, F x y = F' x y) : Cg m F F' := ⟨_, isP_c (c := 0), fun x y => by rw [h]; simp⟩
theorem Cg.symm (h : Cg m F F') : Cg m F' F := h.elim fun G ⟨h1, h2⟩ => ⟨_, h1.neg, fun x y => by rw [h2]; grind⟩
theorem Cg.trans (h : Cg m F F') (h' : Cg m F' F2) : Cg m F F2 := by
  obtain ⟨G, h1, h2⟩ := h
  obtain ⟨G', h3, h4⟩ := h'
  exact ⟨_, h1.add h3, fun x y => by rw [h2, h4]; grind⟩
theorem Cg.add (h : Cg m F F') (h' : Cg m E E') : Cg m (fun x y => F x y + E x y) fun x y => F' x y + E' x y := by
  obtain ⟨G, h1, h2⟩ := h
  obtain ⟨G', h3, h4⟩ := h'
  exact ⟨_, h1.add h3, fun x y => by dsimp only; rw [h2, h4]; grind⟩
theorem Cg.sub (h : Cg m F F') (h' : Cg m E E') : Cg m (fun x y => F x y - E x y) fun x y => F' x y - E' x y := by
  obtain ⟨G, h1, h2⟩ := h
  obtain ⟨G', h3, h4⟩ := h'
  exact ⟨_, h1.sub h3, fun x y => by dsimp only; rw [h2, h4]; grind⟩
theorem Cg.mul (h : Cg m F F') (h' : Cg m E E') (p : IsP F') (q : IsP E') : Cg m (fun x y => F x y * E x y) fun x y => F' x y * E' x y := by
  obtain ⟨G, h1, h2⟩ := h
  obtain ⟨G', h3, h4⟩ := h'
  exact ⟨_, ((h1.mul q).add (p.mul h3)).add (((isP_c (c := m)).mul h1).mul h3), fun x y => by dsimp only; rw [h2, h4]; grind⟩
theorem Cg.comp (h : Cg m F F') (hA : IsP A) (hB : IsP B) : Cg m (fun x y => F (A x y) (B x y)) fun x y => F' (A x y) (B x y) := by
  obtain ⟨G, h1, h2⟩ := h
  exact ⟨_, h1.comp hA hB, fun x y => h2 _ _⟩
theorem Cg.lhs (h : Cg m F F') (e : ∀ x y, F2 x y = F x y) : Cg m F2 F' := h.elim fun G ⟨h1, h2⟩ => ⟨G, h1, fun x y => by rw [e, h2]⟩
theorem Cg.rhs (h : Cg m F F') (e : ∀ x y, F' x y = F2 x y) : Cg m F F2 := h.elim fun G ⟨h1, h2⟩ => ⟨G, h1, fun x y => by rw [h2, e]⟩
theorem Cg.dvd (h : Cg m F F') (x y : Int) : m ∣ F x y - F' x y := h.elim fun G ⟨_, h2⟩ => ⟨G x y, by rw [h2]; grind⟩
/-- what is put in is alike -/
theorem cg_e1 : ∀ {f : List Int}, Cg m F F' → IsP F' → Cg m (fun x y => ev1 f (F x y)) fun x y => ev1 f (F' x y)
  | [], _, _ => Cg.of fun _ _ => rfl
  | c :: f, h, p => (Cg.rfl' (F := fun _ _ => c)).add (h.mul (cg_e1 (f := f) h p) p (isP_e1 p))
theorem cg_e2 : ∀ {P : List (List Int)}, Cg m F F' → Cg m E E' → IsP F' → IsP E' → Cg m (fun x y => ev2 P (F x y) (E x y)) fun x y => ev2 P (F' x y) (E' x y)
  | [], _, _, _, _ => Cg.of fun _ _ => rfl
  | r :: P, h, h', p, q => (cg_e1 (f := r) h' q).add (h.mul (cg_e2 (P := P) h h' p q) p (isP_e2 p q))
end
/-! a polynomial that is nought at all numbers above 0 is nought -/
theorem co_nil {k : Nat} : co [] k = 0 := by simp [co]
theorem co_cons0 {c : Int} {f : List Int} : co (c :: f) 0 = c := rfl
theorem co_consS {c : Int} {f : List Int} {k : Nat} : co (c :: f) (k + 1) = co f k := rfl
theorem row_nil {k : Nat} : rowM [] k = [] := by simp [rowM]
theorem row_cons0 {c : List Int} {f : List (List Int)} : rowM (c :: f) 0 = c := rfl
theorem row_consS {c : List Int} {f : List (List Int)} {k : Nat} : rowM (c :: f) (k + 1) = rowM f k := rfl
theorem nought1 : ∀ (f : List Int), (∀ y : Int, 0 < y → ev1 f y = 0) → ∀ k, co f k = 0
  | [], _, k => co_nil
  | c :: f, h, k => by
    have hc : c = 0 := by
      have h1 := h (c.natAbs + 1) (by omega)
      rw [ev1_cons] at h1
      have hd : ((c.natAbs + 1 : Nat) : Int) ∣ c := ⟨-ev1 f (c.natAbs + 1), by
        have : ((c.natAbs + 1 : Nat) : Int) = (c.natAbs : Int) + 1 := by omega
        rw [this]
        grind⟩
      have h2 := Int.natAbs_dvd_natAbs.mpr hd
      apply Classical.byContradiction
      intro z
      have h3 := Nat.le_of_dvd (by omega) h2
      omega
    subst hc
    have hf : ∀ y : Int, 0 < y → ev1 f y = 0 := fun y hy => by
      have h1 := h y hy
      rw [ev1_cons, Int.zero_add] at h1
      exact (Int.mul_eq_zero.mp h1).resolve_left (by omega)
    cases k with
    | zero => rfl
    | succ k => rw [co_consS]; exact nought1 f hf k
theorem ev2_flat {y x : Int} : ∀ (P : List (List Int)), ev2 P x y = ev1 (P.map fun r => ev1 r y) x
  | [] => rfl
  | r :: P => by rw [List.map_cons, ev1_cons, ev2_cons, ev2_flat P]
theorem co_map {P : List (List Int)} {y : Int} {i : Nat} : co (P.map fun r => ev1 r y) i = ev1 (rowM P i) y := by
  unfold co rowM
  rw [List.getD_eq_getElem?_getD, List.getD_eq_getElem?_getD, List.getElem?_map]
  cases P[i]? with
  | none => rfl
  | some r => rfl
theorem nought2 (P : List (List Int)) (h : ∀ x y : Int, 0 < x → 0 < y → ev2 P x y = 0) (i j : Nat) : co (rowM P i) j = 0 := by
  refine nought1 _ (fun y hy => ?_) j
  rw [← co_map]
  refine nought1 _ (fun x hx => ?_) i
  rw [← ev2_flat]
  exact h x y hx hy
theorem co_addZ : ∀ (f g : List Int) (k : Nat), co (addZ f g) k = co f k + co g k
  | [], g, k => by rw [addZ, co_nil, Int.zero_add]
  | a :: f, [], k => by
    rw [co_nil, Int.add_zero]; rfl
  | a :: f, b :: g, 0 => by rw [addZ]; rfl
  | a :: f, b :: g, k + 1 => by rw [addZ, co_consS, co_consS, co_consS, co_addZ f g k]
theorem row_addZ : ∀ (f g : List (List Int)) (i k : Nat), co (rowM (addZ2 f g) i) k = co (rowM f i) k + co (rowM g i) k
  | [], g, i, k => by rw [addZ2, row_nil, co_nil, Int.zero_add]
  | a :: f, [], i, k => by
    rw [row_nil, co_nil, Int.add_zero]; rfl
  | a :: f, b :: g, 0, k => by rw [addZ2, row_cons0, row_cons0, row_cons0, co_addZ]
  | a :: f, b :: g, i + 1, k => by rw [addZ2, row_consS, row_consS, row_consS, row_addZ f g i k]
theorem co_scale {c : Int} {f : List Int} {k : Nat} : co (f.map (c * ·)) k = c * co f k := by
  unfold co
  rw [List.getD_eq_getElem?_getD, List.getD_eq_getElem?_getD, List.getElem?_map]
  cases f[k]? with
  | none => simp
  | some r => rfl
theorem row_scale {c : Int} {f : List (List Int)} {i k : Nat} : co (rowM (f.map (List.map (c * ·))) i) k = c * co (rowM f i) k := by
  rw [← co_scale]
  unfold rowM
  rw [List.getD_eq_getElem?_getD, List.getD_eq_getElem?_getD, List.getElem?_map]
  cases f[i]? with
  | none => rfl
  | some r => rfl
theorem ev_scale2 {c : Int} : ∀ (f : List (List Int)) (x y : Int), ev2 (f.map (List.map (c * ·))) x y = c * ev2 f x y
  | [], x, y => by simp [ev2]
  | a :: f, x, y => by
    rw [List.map_cons, ev2_cons, ev2_cons, ev_scale2 f x y, ev_scale]
    grind
/-- alike: the coefficients are alike -/
theorem cg_co {m : Int} {P Q : List (List Int)} (h : Cg m (ev2 P) (ev2 Q)) (i j : Nat) : m ∣ co (rowM P i) j - co (rowM Q i) j := by
  obtain ⟨G, ⟨g, hg⟩, h2⟩ := h
  have h3 := nought2 (addZ2 (addZ2 P (Q.map (List.map (-1 * ·)))) (g.map (List.map (-m * ·)))) (fun x y _ _ => by
    rw [ev_addZ2, ev_addZ2, ev_scale2, ev_scale2, h2, hg]
    grind) i j
  rw [row_addZ, row_addZ, row_scale, row_scale] at h3
  exact ⟨co (rowM g i) j, by grind⟩
/-! canonical ones -/
theorem list_ext_c {α : Type} {z : α → Bool} {d : α} (hd : z d = true) {f g : List α} (hf : trm z f = f) (hg : trm z g = g) (h : ∀ k, f.getD k d = g.getD k d) : f = g := by
  have key : ∀ {f g : List α}, trm z g = g → (∀ k, f.getD k d = g.getD k d) → g.length ≤ f.length := fun {f g} hg h => by
    apply Classical.byContradiction
    intro hl
    have hne : g ≠ [] := fun e => by rw [e] at hl; exact hl (Nat.zero_le _)
    obtain ⟨i, x, rfl⟩ := snoc_of hne
    have h1 := trm_last hg
    have h2 := h i.length
    rw [List.getD_eq_getElem?_getD, List.getD_eq_getElem?_getD, List.getElem?_append_right (Nat.le_refl _), Nat.sub_self] at h2
    rw [List.length_append, List.length_singleton] at hl
    rw [List.getElem?_eq_none (by omega)] at h2
    have h3 : d = x := h2
    rw [← h3, hd] at h1
    cases h1
  have hl : f.length = g.length := Nat.le_antisymm (key hf fun k => (h k).symm) (key hg h)
  refine List.ext_getElem hl fun k h1 h2 => ?_
  have := h k
  rw [List.getD_eq_getElem?_getD, List.getD_eq_getElem?_getD, List.getElem?_eq_getElem h1, List.getElem?_eq_getElem h2] at this
  exact this
theorem Cn.at {m : Int} (hm : 0 < m) {f : List Int} (h : Cn m f) (k : Nat) : 0 ≤ co f k ∧ co f k < m := by
  by_cases hk : k < f.length
  · exact h.1.at hk
  · rw [co_out hk]; exact ⟨Int.le_refl _, hm⟩
theorem cn_nil {m : Int} : Cn m [] := ⟨red_nil, rfl⟩
theorem Cn2.row {m : Int} {P : List (List Int)} (h : Cn2 m P) (i : Nat) : Cn m (rowM P i) := by
  by_cases hi : i < P.length
  · unfold rowM
    rw [List.getD_eq_getElem?_getD, List.getElem?_eq_getElem hi]
    exact h.1 _ (List.getElem_mem hi)
  · rw [row_out hi]; exact cn_nil
theorem cn_eq {m : Int} (hm : 0 < m) {P Q : List (List Int)} (hP : Cn2 m P) (hQ : Cn2 m Q) (h : ∀ i j, m ∣ co (rowM P i) j - co (rowM Q i) j) : P = Q := by
  refine list_ext_c (z := List.isEmpty) (d := []) rfl hP.2 hQ.2 fun i => ?_
  refine list_ext_c (z := isZ) (d := 0) rfl (hP.row i).2 (hQ.row i).2 fun j => ?_
  have h1 := (hP.row i).at hm j
  have h2 := (hQ.row i).at hm j
  have h3 := Int.emod_emod_of_dvd (co (rowM P i) j - co (rowM Q i) j) (Int.dvd_refl m)
  have h4 := Int.emod_eq_zero_of_dvd (h i j)
  show co (rowM P i) j = co (rowM Q i) j
  obtain ⟨c, hc⟩ := h i j
  have : c = 0 := by
    apply Classical.byContradiction
    intro z
    rcases Int.lt_or_gt_of_ne z with z | z
    · have := Int.mul_le_mul_of_nonneg_left (show c ≤ -1 by omega) (show 0 ≤ m by omega)
      omega
    · have := Int.mul_le_mul_of_nonneg_left (show 1 ≤ c by omega) (show 0 ≤ m by omega)
      omega
  subst this
  omega
theorem cg_eq {m : Int} (hm : 0 < m) {P Q : List (List Int)} (hP : Cn2 m P) (hQ : Cn2 m Q) (h : Cg m (ev2 P) (ev2 Q)) : P = Q := cn_eq hm hP hQ (cg_co h)
end Nf

set_option Elab.async false
set_option linter.all false
/-! Plain mathematics, second part: what each mirror does, as functions alike. -/
namespace Nf
open Mz
def lsum {α : Type} : List α → (α → Int) → Int
  | [], _ => 0
  | a :: l, t => t a + lsum l t
section
variable {α β : Type} {m : Int}
theorem lsum_cons {a : α} {l : List α} {t : α → Int} : lsum (a :: l) t = t a + lsum l t := rfl
theorem lsum_app {t : α → Int} : ∀ {l l' : List α}, lsum (l ++ l') t = lsum l t + lsum l' t
  | [], l' => by simp [lsum]
  | a :: l, l' => by rw [List.cons_append, lsum_cons, lsum_cons, lsum_app]; omega
theorem lsum_add {t t' : α → Int} : ∀ {l : List α}, lsum l (fun a => t a + t' a) = lsum l t + lsum l t'
  | [] => by simp [lsum]
  | a :: l => by rw [lsum_cons, lsum_cons, lsum_cons, lsum_add]; omega
theorem lsum_sub {t t' : α → Int} : ∀ {l : List α}, lsum l (fun a => t a - t' a) = lsum l t - lsum l t'
  | [] => by simp [lsum]
  | a :: l => by rw [lsum_cons, lsum_cons, lsum_cons, lsum_sub]; omega
theorem lsum_mul {c : Int} {t : α → Int} : ∀ {l : List α}, lsum l (fun a => c * t a) = c * lsum l t
  | [] => by simp [lsum]
  | a :: l => by rw [lsum_cons, lsum_cons, lsum_mul]; grind
theorem lsum_congr {t t' : α → Int} : ∀ {l : List α}, (∀ a ∈ l, t a = t' a) → lsum l t = lsum l t'
  | [], _ => rfl
  | a :: l, h => by rw [lsum_cons, lsum_cons, h a List.mem_cons_self, lsum_congr fun b hb => h b (List.mem_cons_of_mem _ hb)]
theorem lsum_map {f : α → β} {t : β → Int} : ∀ {l : List α}, lsum (l.map f) t = lsum l fun a => t (f a)
  | [] => rfl
  | a :: l => by rw [List.map_cons, lsum_cons, lsum_cons, lsum_map]
theorem lsum_zero : ∀ {l : List α}, (lsum l fun _ => 0) = 0
  | [] => rfl
  | a :: l => by rw [lsum_cons, lsum_zero]; rfl
theorem isP_lsum {T : α → Fn} : ∀ {l : List α}, (∀ a ∈ l, IsP (T a)) → IsP fun x y => lsum l fun a => T a x y
  | [], _ => (isP_c (c := 0)).of fun _ _ => rfl
  | a :: l, h => ((h a List.mem_cons_self).add (isP_lsum fun b hb => h b (List.mem_cons_of_mem _ hb))).of fun _ _ => rfl
theorem cg_lsum {T T' : α → Fn} : ∀ {l : List α}, (∀ a ∈ l, Cg m (T a) (T' a)) → Cg m (fun x y => lsum l fun a => T a x y) fun x y => lsum l fun a => T' a x y
  | [], _ => Cg.of fun _ _ => rfl
  | a :: l, h => ((h a List.mem_cons_self).add (cg_lsum fun b hb => h b (List.mem_cons_of_mem _ hb)))
theorem lsum_range0 {n : Nat} {t : Nat → Int} : lsum (List.range (n + 1)) t = t 0 + lsum (List.range n) fun k => t (k + 1) := by
  rw [List.range_succ_eq_map, lsum_cons, lsum_map]
theorem lsum_rangeS {n : Nat} {t : Nat → Int} : lsum (List.range (n + 1)) t = lsum (List.range n) t + t n := by
  rw [List.range_succ, lsum_app]
  simp [lsum]
/-- a fold whose each step adds -/
theorem fold_cg (e : β → Fn) (I : β → Prop) (T : α → Fn) {g : β → α → β} : ∀ (L : List α) (acc : β), I acc → (∀ acc a, a ∈ L → I acc → I (g acc a) ∧ Cg m (e (g acc a)) fun x y => e acc x y + T a x y) →
    I (L.foldl g acc) ∧ Cg m (e (L.foldl g acc)) fun x y => e acc x y + lsum L fun a => T a x y
  | [], acc, h, _ => ⟨h, Cg.of fun x y => by simp [lsum]⟩
  | a :: L, acc, h, hs => by
    obtain ⟨h1, h2⟩ := hs acc a List.mem_cons_self h
    obtain ⟨h3, h4⟩ := fold_cg e I T L (g acc a) h1 fun acc b hb => hs acc b (List.mem_cons_of_mem _ hb)
    refine ⟨h3, (h4.trans (h2.add Cg.rfl')).rhs fun x y => ?_⟩
    rw [lsum_cons]; omega
end
theorem Cg.zero {m : Int} {F F' : Fn} (h : Cg 0 F F') : Cg m F F' := h.elim fun G ⟨_, h2⟩ => Cg.of fun x y => by rw [h2]; simp
theorem Cg.exact {F F' : Fn} (h : Cg 0 F F') (x y : Int) : F x y = F' x y := h.elim fun G ⟨_, h2⟩ => by rw [h2]; simp
/-! sums by places -/
theorem ev1_sum {y : Int} : ∀ {f : List Int} {n : Nat}, f.length ≤ n → ev1 f y = lsum (List.range n) fun k => co f k * y ^ k
  | [], n, _ => by
    rw [lsum_congr (t' := fun _ => 0) (fun k _ => by rw [co_nil, Int.zero_mul]), lsum_zero]; rfl
  | c :: f, 0, h => absurd h (by simp)
  | c :: f, n + 1, h => by
    rw [lsum_range0, ev1_cons, ev1_sum (f := f) (n := n) (by simpa using h), ← lsum_mul, co_cons0, Int.pow_zero, Int.mul_one]
    congr 1
    exact lsum_congr fun k _ => by rw [co_consS]; grind
theorem co_range {n k : Nat} {c : Nat → Int} (h : k < n) : co ((List.range n).map c) k = c k := by
  unfold co
  rw [List.getD_eq_getElem?_getD, rng_at h]; rfl
theorem ev1_range {n : Nat} {c : Nat → Int} {y : Int} : ev1 ((List.range n).map c) y = lsum (List.range n) fun k => c k * y ^ k := by
  rw [ev1_sum (n := n) (by simp)]
  exact lsum_congr fun k hk => by rw [co_range (List.mem_range.mp hk)]
theorem ev2_sum {x y : Int} : ∀ {f : List (List Int)} {n : Nat}, f.length ≤ n → ev2 f x y = lsum (List.range n) fun k => x ^ k * ev1 (rowM f k) y
  | [], n, _ => by
    rw [lsum_congr (t' := fun _ => 0) (fun k _ => by rw [row_nil]; simp [ev1]), lsum_zero]; rfl
  | c :: f, 0, h => absurd h (by simp)
  | c :: f, n + 1, h => by
    rw [lsum_range0, ev2_cons, ev2_sum (f := f) (n := n) (by simpa using h), ← lsum_mul, row_cons0, Int.pow_zero, Int.one_mul]
    congr 1
    exact lsum_congr fun k _ => by rw [row_consS]; grind
theorem row_range {n k : Nat} {c : Nat → List Int} (h : k < n) : rowM ((List.range n).map c) k = c k := by
  unfold rowM
  rw [List.getD_eq_getElem?_getD, rng_at h]; rfl
theorem ev2_range {n : Nat} {c : Nat → List Int} {x y : Int} : ev2 ((List.range n).map c) x y = lsum (List.range n) fun k => x ^ k * ev1 (c k) y := by
  rw [ev2_sum (n := n) (by simp)]
  exact lsum_congr fun k hk => by rw [row_range (List.mem_range.mp hk)]
theorem lsum_en1 {y : Int} : ∀ {f : List Int} {k : Nat}, (lsum (en k f) fun q => q.2 * y ^ q.1) = y ^ k * ev1 f y
  | [], k => by simp [en, lsum, ev1]
  | c :: f, k => by
    unfold en
    rw [lsum_cons, lsum_en1, ev1_cons]
    grind
theorem lsum_en2 {x y : Int} : ∀ {f : List (List Int)} {k : Nat}, (lsum (en k f) fun q => x ^ q.1 * ev1 q.2 y) = x ^ k * ev2 f x y
  | [], k => by simp [en, lsum, ev2]
  | c :: f, k => by
    unfold en
    rw [lsum_cons, lsum_en2, ev2_cons]
    grind
theorem ev1_app {y c : Int} : ∀ {f : List Int}, ev1 (f ++ [c]) y = ev1 f y + c * y ^ f.length
  | [] => by simp [ev1]
  | a :: f => by
    rw [List.cons_append, ev1_cons, ev1_cons, ev1_app, List.length_cons]
    grind
theorem ev2_app {x y : Int} {r : List Int} : ∀ {f : List (List Int)}, ev2 (f ++ [r]) x y = ev2 f x y + ev1 r y * x ^ f.length
  | [] => by simp [ev2]
  | a :: f => by
    rw [List.cons_append, ev2_cons, ev2_cons, ev2_app, List.length_cons]
    grind
theorem ev1_trm {y : Int} : ∀ (n : Nat) (f : List Int), f.length = n → ev1 (trm isZ f) y = ev1 f y
  | 0, f, h => by rw [List.length_eq_zero_iff.mp h]; rfl
  | n + 1, f, h => by
    obtain ⟨i, x, rfl⟩ := snoc_of (l := f) (fun z => by rw [z] at h; cases h)
    rw [trm_snoc]
    by_cases hx : isZ x = true
    · rw [if_pos hx, ev1_trm n i (by simpa using h), ev1_app]
      have : x = 0 := by unfold isZ at hx; simpa using hx
      rw [this]; simp
    · rw [if_neg hx]
theorem ev2_trm {x y : Int} : ∀ (n : Nat) (f : List (List Int)), f.length = n → ev2 (trm List.isEmpty f) x y = ev2 f x y
  | 0, f, h => by rw [List.length_eq_zero_iff.mp h]; rfl
  | n + 1, f, h => by
    obtain ⟨i, r, rfl⟩ := snoc_of (l := f) (fun z => by rw [z] at h; cases h)
    rw [trm_snoc]
    by_cases hx : List.isEmpty r = true
    · rw [if_pos hx, ev2_trm n i (by simpa using h), ev2_app]
      have : r = [] := by simpa using hx
      rw [this]; simp [ev1]
    · rw [if_neg hx]
theorem ev1_mod {m y : Int} : ∀ (f : List Int), ev1 (f.map (· % m)) y = ev1 f y - m * ev1 (f.map (· / m)) y
  | [] => by simp [ev1]
  | a :: f => by
    rw [List.map_cons, List.map_cons, ev1_cons, ev1_cons, ev1_cons, ev1_mod f]
    have := Int.emod_add_mul_ediv a m
    grind
def e1 (f : List Int) : Fn := fun _ y => ev1 f y
theorem isP_1 {f : List Int} : IsP (e1 f) := isP_e1 isP_y
section
variable {m : Int}
theorem cg_pol {xs : List Int} : Cg m (e1 (pol m xs)) (e1 xs) := by
  refine ⟨_, (isP_1 (f := xs.map (· / m))).neg, fun x y => ?_⟩
  show ev1 (trm isZ (xs.map (· % m))) y = ev1 xs y + m * -ev1 (xs.map (· / m)) y
  rw [ev1_trm _ _ rfl, ev1_mod]
  grind
theorem cg_plus1 {f g : List Int} : Cg m (e1 (plusM m f g)) fun _ y => ev1 f y + ev1 g y := by
  refine (cg_pol (m := m)).rhs fun x y => ?_
  show ev1 _ y = _
  rw [ev1_range, ev1_sum (f := f) (Nat.le_max_left f.length g.length), ev1_sum (f := g) (Nat.le_max_right f.length g.length), ← lsum_add]
  exact lsum_congr fun k _ => by grind
theorem cg_less1 {f g : List Int} : Cg m (e1 (lessM m f g)) fun _ y => ev1 f y - ev1 g y := by
  refine (cg_pol (m := m)).rhs fun x y => ?_
  show ev1 _ y = _
  rw [ev1_range, ev1_sum (f := f) (Nat.le_max_left f.length g.length), ev1_sum (f := g) (Nat.le_max_right f.length g.length), ← lsum_sub]
  exact lsum_congr fun k _ => by grind
theorem ev1_set {y v : Int} : ∀ {f : List Int} {k : Nat}, k < f.length → ev1 (f.set k v) y = ev1 f y + (v - co f k) * y ^ k
  | a :: f, 0, _ => by
    show v + y * ev1 f y = a + y * ev1 f y + (v - a) * y ^ 0
    grind
  | a :: f, k + 1, h => by
    show a + y * ev1 (f.set k v) y = _
    rw [ev1_set (f := f) (k := k) (by simpa using h), co_consS, ev1_cons]
    grind
theorem ev2_set {x y : Int} {r : List Int} : ∀ {f : List (List Int)} {k : Nat}, k < f.length → ev2 (f.set k r) x y = ev2 f x y + x ^ k * (ev1 r y - ev1 (rowM f k) y)
  | a :: f, 0, _ => by
    show ev1 r y + x * ev2 f x y = ev1 a y + x * ev2 f x y + x ^ 0 * (ev1 r y - ev1 a y)
    grind
  | a :: f, k + 1, h => by
    show ev1 a y + x * ev2 (f.set k r) x y = _
    rw [ev2_set (f := f) (k := k) (by simpa using h), row_consS, ev2_cons]
    grind
theorem ev1_rep {n : Nat} {y : Int} : ev1 (List.replicate n 0) y = 0 := by
  induction n with
  | zero => rfl
  | succ n ih => rw [List.replicate_succ, ev1_cons, ih]; simp
theorem ev2_rep {n : Nat} {x y : Int} {r : List Int} (h : ev1 r y = 0) : ev2 (List.replicate n r) x y = 0 := by
  induction n with
  | zero => rfl
  | succ n ih => rw [List.replicate_succ, ev2_cons, ih, h]; simp
/-- one place is set anew, by rests -/
theorem cg_set1 {f : List Int} {k : Nat} {v : Int} (h : k < f.length) : Cg m (e1 (f.set k ((co f k + v) % m))) fun _ y => ev1 f y + v * y ^ k := by
  refine ⟨fun _ y => -((co f k + v) / m) * y ^ k, isP_c.mul (isP_y.pow k), fun x y => ?_⟩
  show ev1 _ y = _
  rw [ev1_set h]
  have := Int.emod_add_mul_ediv (co f k + v) m
  dsimp only
  grind
theorem cg_times1 {f g : List Int} : Cg m (e1 (timesM m f g)) fun _ y => ev1 f y * ev1 g y := by
  refine (cg_pol (m := m)).trans ?_
  have h := fold_cg (m := m) e1 (fun acc : List Int => acc.length = f.length + g.length) (fun i => fun _ y => co f i * y ^ i * ev1 g y)
    (g := fun acc i => (List.range g.length).foldl (fun acc j => acc.set (i + j) ((co acc (i + j) + co f i * co g j) % m)) acc) (List.range f.length) (List.replicate (f.length + g.length) 0) (by simp) fun acc i hi hl => ?_
  · refine h.2.rhs fun x y => ?_
    show ev1 (List.replicate (f.length + g.length) 0) y + _ = _
    rw [ev1_rep, Int.zero_add, ev1_sum (f := f) (Nat.le_refl _), Int.mul_comm, ← lsum_mul]
    exact lsum_congr fun k _ => by grind
  · have h := fold_cg (m := m) e1 (fun acc : List Int => acc.length = f.length + g.length) (fun j => fun _ y => co f i * co g j * y ^ (i + j))
      (g := fun acc j => acc.set (i + j) ((co acc (i + j) + co f i * co g j) % m)) (List.range g.length) acc hl fun acc j hj hl => ⟨by rw [List.length_set]; exact hl, ?_⟩
    · refine ⟨h.1, h.2.rhs fun x y => ?_⟩
      show ev1 acc y + _ = ev1 acc y + _
      rw [ev1_sum (f := g) (Nat.le_refl _), ← lsum_mul]
      congr 1
      exact lsum_congr fun k _ => by rw [Int.pow_add]; grind
    · have h1 := List.mem_range.mp hi
      have h2 := List.mem_range.mp hj
      exact cg_set1 (by omega)
theorem cg_rows {f : List Int → List Int} (h : ∀ r, Cg m (e1 (f r)) (e1 r)) : ∀ (P : List (List Int)), Cg m (ev2 (P.map f)) (ev2 P)
  | [] => Cg.rfl'
  | r :: P => (((h r).add (((Cg.rfl' (F := fun x _ => x)).mul (cg_rows h P) isP_x isP_ev2))).lhs fun _ _ => rfl).rhs fun _ _ => rfl
theorem cg_pol2 {P : List (List Int)} : Cg m (ev2 (pol2 m P)) (ev2 P) := (cg_rows (m := m) (fun r => cg_pol) P).lhs fun x y => ev2_trm _ _ rfl
theorem cn_pol2 (hm : 0 < m) {P : List (List Int)} : Cn2 m (pol2 m P) := by
  refine ⟨fun r hr => ?_, ?_⟩
  · obtain ⟨x, _, rfl⟩ := List.mem_map.mp (trm_mem hr)
    refine ⟨red_pol hm, ?_⟩
    unfold pol trm
    rw [List.reverse_reverse]
    congr 1
    generalize (x.map (· % m)).reverse = l
    induction l with
    | nil => rfl
    | cons a l ih =>
      rw [List.dropWhile_cons]
      by_cases h : isZ a = true
      · rw [if_pos h]; exact ih
      · rw [if_neg h, List.dropWhile_cons, if_neg h]
  · unfold pol2 trm
    rw [List.reverse_reverse]
    congr 1
    generalize (P.map (pol m)).reverse = l
    induction l with
    | nil => rfl
    | cons a l ih =>
      rw [List.dropWhile_cons]
      by_cases h : List.isEmpty a = true
      · rw [if_pos h]; exact ih
      · rw [if_neg h, List.dropWhile_cons, if_neg h]
theorem cg_range2 {n : Nat} {c : Nat → List Int} {T : Nat → Fn} (h : ∀ i, Cg m (e1 (c i)) (T i)) (hT : ∀ i, IsP (T i)) : Cg m (ev2 ((List.range n).map c)) fun x y => lsum (List.range n) fun i => x ^ i * T i x y :=
  (cg_lsum (m := m) (l := List.range n) fun i _ => (Cg.rfl' (F := fun x _ => x ^ i)).mul (h i) (isP_x.pow i) (hT i)).lhs fun x y => ev2_range
theorem cg_plus2 {P Q : List (List Int)} : Cg m (ev2 (plus2M m P Q)) fun x y => ev2 P x y + ev2 Q x y := by
  refine (cg_pol2 (m := m)).trans ((cg_range2 (m := m) (fun i => cg_plus1) fun i => isP_1.add isP_1).rhs fun x y => ?_)
  rw [ev2_sum (f := P) (Nat.le_max_left P.length Q.length), ev2_sum (f := Q) (Nat.le_max_right P.length Q.length), ← lsum_add]
  exact lsum_congr fun k _ => by show _ * (ev1 _ y + ev1 _ y) = _; grind
theorem cg_less2 {P Q : List (List Int)} : Cg m (ev2 (less2M m P Q)) fun x y => ev2 P x y - ev2 Q x y := by
  refine (cg_pol2 (m := m)).trans ((cg_range2 (m := m) (fun i => cg_less1) fun i => isP_1.sub isP_1).rhs fun x y => ?_)
  rw [ev2_sum (f := P) (Nat.le_max_left P.length Q.length), ev2_sum (f := Q) (Nat.le_max_right P.length Q.length), ← lsum_sub]
  exact lsum_congr fun k _ => by show _ * (ev1 _ y - ev1 _ y) = _; grind
/-- one row is set anew -/
theorem cg_set2 {A : List (List Int)} {k : Nat} {r : List Int} {T : Fn} (h : k < A.length) (hr : Cg m (e1 r) fun x y => ev1 (rowM A k) y + T x y) (hT : IsP T) : Cg m (ev2 (A.set k r)) fun x y => ev2 A x y + x ^ k * T x y := by
  have h1 := ((Cg.rfl' (m := m) (F := fun x _ => x ^ k)).mul (hr.sub (Cg.rfl' (F := e1 (rowM A k)))) (isP_x.pow k) ((isP_1.add hT).sub isP_1))
  refine (((Cg.rfl' (m := m) (F := ev2 A)).add h1).lhs fun x y => ev2_set h).rhs fun x y => ?_
  show _ + x ^ k * (ev1 (rowM A k) y + T x y - ev1 (rowM A k) y) = _
  grind
theorem cg_times2 {P Q : List (List Int)} : Cg m (ev2 (times2M m P Q)) fun x y => ev2 P x y * ev2 Q x y := by
  refine (cg_pol2 (m := m)).trans ?_
  have h := fold_cg (m := m) ev2 (fun acc : List (List Int) => acc.length = P.length + Q.length) (fun p => fun x y => x ^ p.1 * ev1 p.2 y * ev2 Q x y)
    (g := fun acc p => (en 0 Q).foldl (fun acc q => acc.set (p.1 + q.1) (plusM m (rowM acc (p.1 + q.1)) (timesM m p.2 q.2))) acc) (en 0 P) (List.replicate (P.length + Q.length) []) (by simp) fun acc p hp hl => ?_
  · refine h.2.rhs fun x y => ?_
    rw [ev2_rep rfl, Int.zero_add]
    have e := lsum_en2 (x := x) (y := y) (f := P) (k := 0)
    rw [Int.pow_zero, Int.one_mul] at e
    rw [← e, Int.mul_comm, ← lsum_mul]
    exact lsum_congr fun q _ => by grind
  · have h := fold_cg (m := m) ev2 (fun acc : List (List Int) => acc.length = P.length + Q.length) (fun q => fun x y => x ^ (p.1 + q.1) * (ev1 p.2 y * ev1 q.2 y))
      (g := fun acc q => acc.set (p.1 + q.1) (plusM m (rowM acc (p.1 + q.1)) (timesM m p.2 q.2))) (en 0 Q) acc hl fun acc q hq hl => ⟨by rw [List.length_set]; exact hl, ?_⟩
    · refine ⟨h.1, h.2.rhs fun x y => ?_⟩
      have e := lsum_en2 (x := x) (y := y) (f := Q) (k := 0)
      rw [Int.pow_zero, Int.one_mul] at e
      rw [← e, ← lsum_mul]
      congr 1
      exact lsum_congr fun q _ => by rw [Int.pow_add]; grind
    · have h1 := (en_mem hp).1
      have h2 := (en_mem hq).1
      refine cg_set2 (by omega) (cg_plus1.trans ((Cg.rfl' (F := e1 _)).add cg_times1)) (isP_1.mul isP_1)
theorem ev_one {c x y : Int} : ev2 [[c]] x y = c := by simp [ev2, ev1]
theorem cg_horn {V : List (List Int)} : ∀ (row : List Int), Cg m (ev2 (hornI m row V)) fun x y => ev1 row (ev2 V x y)
  | [] => Cg.of fun _ _ => rfl
  | c :: row => by
    have e : hornI m (c :: row) V = plus2M m (times2M m (hornI m row V) V) (pol2 m [[c]]) := by
      unfold hornI
      rw [List.reverse_cons, List.foldl_append]; rfl
    rw [e]
    refine (cg_plus2.trans ((cg_times2.trans ((cg_horn row).mul Cg.rfl' (isP_e1 isP_ev2) isP_ev2)).add cg_pol2)).rhs fun x y => ?_
    rw [ev_one, ev1_cons]
    grind
theorem cg_upon2 {U V : List (List Int)} : ∀ (P : List (List Int)), Cg m (ev2 (upon2M m P U V)) fun x y => ev2 P (ev2 U x y) (ev2 V x y)
  | [] => Cg.of fun _ _ => rfl
  | r :: P => by
    have e : upon2M m (r :: P) U V = plus2M m (times2M m (upon2M m P U V) U) (hornI m r V) := by
      unfold upon2M
      rw [List.reverse_cons, List.foldl_append]; rfl
    rw [e]
    refine (cg_plus2.trans ((cg_times2.trans ((cg_upon2 P).mul Cg.rfl' (isP_e2 isP_ev2 isP_ev2) isP_ev2)).add (cg_horn r))).rhs fun x y => ?_
    rw [ev2_cons]
    grind
theorem ev_inx {x y : Int} : ∀ (f : List Int), ev2 (inxM f) x y = ev1 f x
  | [] => rfl
  | c :: f => by
    show ev1 (if c = 0 then [] else [c]) y + x * ev2 (inxM f) x y = _
    rw [ev_inx f, ev1_cons]
    split
    · next h => rw [h]; rfl
    · simp [ev1]
theorem cg_wk {s : List Int × Int} {R : List (List Int)} : Cg m (ev2 (wkM m s R)) fun x y => ev1 s.1 (ev2 R x y + s.2) := by
  unfold wkM
  refine (cg_upon2 _).trans ?_
  refine (((cg_e1 (f := s.1) (cg_plus2 (m := m) (P := R) (Q := pol2 m [[s.2]])) (isP_ev2.add isP_ev2)).lhs fun x y => ev_inx _).trans (cg_e1 (f := s.1) ((Cg.rfl' (F := ev2 R)).add cg_pol2) (isP_ev2.add isP_ev2))).rhs fun x y => ?_
  rw [ev_one]
/-! the law's own -/
theorem cg_add {P Q : List (List Int)} {b : Int} : Cg m (ev2 (addM m P Q b)) fun x y => ev2 P x y + b * ev2 Q x y := by
  refine (cg_pol2 (m := m)).trans (Cg.of fun x y => ?_)
  rw [ev2_range, ev2_sum (f := P) (Nat.le_max_left P.length Q.length), ev2_sum (f := Q) (Nat.le_max_right P.length Q.length), ← lsum_mul, ← lsum_add]
  refine lsum_congr fun i _ => ?_
  rw [ev1_range, ev1_sum (f := rowM P i) (Nat.le_max_left _ (rowM Q i).length), ev1_sum (f := rowM Q i) (Nat.le_max_right (rowM P i).length _)]
  have : (lsum (List.range (max (rowM P i).length (rowM Q i).length)) fun k => (co (rowM P i) k + b * co (rowM Q i) k) * y ^ k) =
      (lsum (List.range (max (rowM P i).length (rowM Q i).length)) fun k => co (rowM P i) k * y ^ k) + b * lsum (List.range (max (rowM P i).length (rowM Q i).length)) fun k => co (rowM Q i) k * y ^ k := by
    rw [← lsum_mul, ← lsum_add]
    exact lsum_congr fun k _ => by grind
  rw [this]
  grind
theorem cg_hA {more : List Int} {W : Nat} {a : Nat × Int} (hW : a.1 + more.length ≤ W) {h : List Int} (hl : h.length = W) : (hA more h a).length = W ∧ Cg 0 (e1 (hA more h a)) fun _ y => ev1 h y + a.2 * y ^ a.1 * ev1 more y := by
  have h := fold_cg (m := 0) e1 (fun acc : List Int => acc.length = W) (fun b => fun _ y => a.2 * b.2 * y ^ (a.1 + b.1)) (g := hB a) (en 0 more) h hl fun acc b hb hl => ⟨by rw [List.length_set]; exact hl, ?_⟩
  · refine ⟨h.1, h.2.rhs fun x y => ?_⟩
    have e := lsum_en1 (y := y) (f := more) (k := 0)
    rw [Int.pow_zero, Int.one_mul] at e
    show ev1 _ y + _ = _
    rw [← e, ← lsum_mul]
    congr 1
    exact lsum_congr fun q _ => by rw [Int.pow_add]; grind
  · have h2 := (en_mem hb).1
    refine Cg.of fun x y => ?_
    show ev1 (acc.set (a.1 + b.1) (co acc (a.1 + b.1) + a.2 * b.2)) y = ev1 acc y + _
    rw [ev1_set (by omega)]
    grind
theorem cg_lmul {P Q : List (List Int)} : Cg m (ev2 (lmulM m P Q)) fun x y => ev2 P x y * ev2 Q x y := by
  refine (cg_pol2 (m := m)).trans (Cg.zero ?_)
  have hw1 : ∀ r ∈ P, 2 * r.length ≤ wide (P ++ Q) * 2 := fun r hr => by have := wide_mem (List.mem_append_left Q hr); omega
  have hw2 : ∀ r ∈ Q, 2 * r.length ≤ wide (P ++ Q) * 2 := fun r hr => by have := wide_mem (List.mem_append_right P hr); omega
  have h := fold_cg (m := 0) ev2 (Gr (P.length + Q.length) (wide (P ++ Q) * 2)) (fun p => fun x y => x ^ p.1 * ev1 p.2 y * ev2 Q x y) (g := hP Q) (en 0 P) (List.replicate (P.length + Q.length) (List.replicate (wide (P ++ Q) * 2) 0))
    ⟨by rw [List.length_replicate], fun r hr => by rw [(List.mem_replicate.mp hr).2, List.length_replicate]⟩ fun acc p hp hl => ?_
  · refine h.2.rhs fun x y => ?_
    rw [ev2_rep ev1_rep, Int.zero_add]
    have e := lsum_en2 (x := x) (y := y) (f := P) (k := 0)
    rw [Int.pow_zero, Int.one_mul] at e
    rw [← e, Int.mul_comm, ← lsum_mul]
    exact lsum_congr fun q _ => by grind
  · have hp1 := en_mem hp
    have hwp := hw1 _ hp1.2.2
    have h := fold_cg (m := 0) ev2 (Gr (P.length + Q.length) (wide (P ++ Q) * 2)) (fun q => fun x y => x ^ (p.1 + q.1) * (ev1 p.2 y * ev1 q.2 y)) (g := hQ p) (en 0 Q) acc hl fun acc q hq hl => ?_
    · refine ⟨h.1, h.2.rhs fun x y => ?_⟩
      have e := lsum_en2 (x := x) (y := y) (f := Q) (k := 0)
      rw [Int.pow_zero, Int.one_mul] at e
      rw [← e, ← lsum_mul]
      congr 1
      exact lsum_congr fun q _ => by rw [Int.pow_add]; grind
    · have hq1 := en_mem hq
      have hwq := hw2 _ hq1.2.2
      have hk : p.1 + q.1 < acc.length := by rw [hl.1]; omega
      have h3 := fold_cg (m := 0) e1 (fun h : List Int => h.length = wide (P ++ Q) * 2) (fun a => fun _ y => a.2 * y ^ a.1 * ev1 q.2 y) (g := hA q.2) (en 0 p.2) (rowM acc (p.1 + q.1)) (hl.row hk) fun h a ha hl => by
        have := (en_mem ha).1
        exact cg_hA (by omega) hl
      refine ⟨hl.set h3.1, cg_set2 hk (h3.2.rhs fun x y => ?_) (isP_1.mul isP_1)⟩
      have e := lsum_en1 (y := y) (f := p.2) (k := 0)
      rw [Int.pow_zero, Int.one_mul] at e
      show ev1 _ y + _ = ev1 _ y + ev1 p.2 y * ev1 q.2 y
      rw [← e, Int.mul_comm, ← lsum_mul]
      congr 1
      exact lsum_congr fun q _ => by grind
end
end Nf

set_option Elab.async false
set_option linter.all false
/-! Plain mathematics, third part: putting one upon others by powers; tables of neighbours. -/
namespace Nf
open Mz
section
variable {m : Int}
theorem cn2_nil {m : Int} : Cn2 m [] := ⟨fun r hr => (nomatch hr), rfl⟩
theorem cg_putI {V : List (List Int)} : ∀ (r : List Int) (j : Nat) (inn ot : List (List Int)), Cg m (ev2 (if 0 < j then lmulM m ot V else ot)) (fun x y => ev2 V x y ^ j) →
    Cg m (ev2 (putI m V j r inn ot)) fun x y => ev2 inn x y + ev2 V x y ^ j * ev1 r (ev2 V x y)
  | [], j, inn, ot, _ => by rw [putI]; exact Cg.of fun x y => by simp [ev1]
  | one :: r, j, inn, ot, h => by
    rw [putI]
    generalize (if 0 < j then lmulM m ot V else ot) = ot2 at h
    have ih := cg_putI r (j + 1) (addM m inn ot2 one) ot2 (by
      rw [if_pos (Nat.succ_pos j)]
      exact (cg_lmul.trans (h.mul Cg.rfl' (isP_ev2.pow j) isP_ev2)).rhs fun x y => by rw [Int.pow_succ])
    refine (ih.trans ((cg_add.trans (Cg.rfl'.add ((Cg.rfl' (F := fun _ _ => one)).mul h isP_c (isP_ev2.pow j)))).add Cg.rfl')).rhs fun x y => ?_
    rw [ev1_cons]
    grind
theorem cg_putO {U V : List (List Int)} : ∀ (r : List (List Int)) (i : Nat) (fd pw : List (List Int)), Cg m (ev2 (if 0 < i then lmulM m pw U else pw)) (fun x y => ev2 U x y ^ i) →
    Cg m (ev2 (putO m U V i r fd pw)) fun x y => ev2 fd x y + ev2 U x y ^ i * ev2 r (ev2 U x y) (ev2 V x y)
  | [], i, fd, pw, _ => by rw [putO]; exact Cg.of fun x y => by simp [ev2]
  | row :: r, i, fd, pw, h => by
    rw [putO]
    generalize (if 0 < i then lmulM m pw U else pw) = pw2 at h
    have hi : Cg m (ev2 (putI m V 0 row [] [[1]])) fun x y => ev1 row (ev2 V x y) := by
      refine (cg_putI row 0 [] [[1]] (Cg.of fun x y => ?_)).rhs fun x y => ?_
      · rw [if_neg (by decide), ev_one, Int.pow_zero]
      · show 0 + _ ^ 0 * _ = _
        grind
    have ih := cg_putO (V := V) r (i + 1) (addM m fd (lmulM m (putI m V 0 row [] [[1]]) pw2) 1) pw2 (by
      rw [if_pos (Nat.succ_pos i)]
      exact (cg_lmul.trans (h.mul Cg.rfl' (isP_ev2.pow i) isP_ev2)).rhs fun x y => by rw [Int.pow_succ])
    have hp : Cg m (ev2 (lmulM m (putI m V 0 row [] [[1]]) pw2)) fun x y => ev1 row (ev2 V x y) * ev2 U x y ^ i := cg_lmul.trans (hi.mul h (isP_e1 isP_ev2) (isP_ev2.pow i))
    refine (ih.trans ((cg_add.trans (Cg.rfl'.add ((Cg.rfl' (F := fun _ _ => 1)).mul hp isP_c ((isP_e1 isP_ev2).mul (isP_ev2.pow i))))).add Cg.rfl')).rhs fun x y => ?_
    rw [ev2_cons]
    grind
theorem cg_put {P U V : List (List Int)} : Cg m (ev2 (putM m P U V)) fun x y => ev2 P (ev2 U x y) (ev2 V x y) := by
  unfold putM
  refine (cg_putO P 0 [] [[1]] (Cg.of fun x y => ?_)).rhs fun x y => ?_
  · rw [if_neg (by decide), ev_one, Int.pow_zero]
  · show 0 + _ ^ 0 * _ = _
    grind
theorem cn_putO (hm : 0 < m) {U V : List (List Int)} : ∀ (r : List (List Int)) (i : Nat) (fd pw : List (List Int)), Cn2 m fd → Cn2 m (putO m U V i r fd pw)
  | [], i, fd, pw, h => by rw [putO]; exact h
  | row :: r, i, fd, pw, h => by rw [putO]; exact cn_putO hm r _ _ _ (cn_pol2 hm)
theorem cn_put (hm : 0 < m) {P U V : List (List Int)} : Cn2 m (putM m P U V) := cn_putO hm _ _ _ _ cn2_nil
theorem cn_upon2 (hm : 0 < m) {P U V : List (List Int)} : Cn2 m (upon2M m P U V) := by
  cases P with
  | nil => exact cn2_nil
  | cons r P =>
    have e : upon2M m (r :: P) U V = plus2M m (times2M m (upon2M m P U V) U) (hornI m r V) := by
      unfold upon2M
      rw [List.reverse_cons, List.foldl_append]; rfl
    rw [e]
    exact cn_pol2 hm
theorem put_upon (hm : 0 < m) {P U V : List (List Int)} : putM m P U V = upon2M m P U V := cg_eq hm (cn_put hm) (cn_upon2 hm) (cg_put.trans (cg_upon2 P).symm)
theorem cg_wideGo {sh : List (List Int)} : ∀ (f : List Int) (fd pw : List (List Int)), Cg m (ev2 (wideGo m sh f fd pw)) fun x y => ev2 fd x y + ev2 pw x y * ev1 f (ev2 sh x y)
  | [], fd, pw => by rw [wideGo]; exact Cg.of fun x y => by simp [ev1]
  | one :: f, fd, pw => by
    rw [wideGo]
    refine ((cg_wideGo f (addM m fd pw one) (lmulM m pw sh)).trans (cg_add.add (cg_lmul.mul Cg.rfl' (isP_ev2.mul isP_ev2) (isP_e1 isP_ev2)))).rhs fun x y => ?_
    rw [ev1_cons]
    grind
theorem cn_wideGo (hm : 0 < m) {sh : List (List Int)} : ∀ (f : List Int) (fd pw : List (List Int)), Cn2 m fd → Cn2 m (wideGo m sh f fd pw)
  | [], fd, pw, h => by rw [wideGo]; exact h
  | one :: f, fd, pw, h => by rw [wideGo]; exact cn_wideGo hm f _ _ (cn_pol2 hm)
/-- what a step makes, both ways -/
theorem wide_eq (hm : 0 < m) {P R : List (List Int)} {s : List Int × Int} (hP : Cn2 m P) : lwideM m P R s = plus2M m P (wkM m s R) := by
  refine cg_eq hm (cn_wideGo hm _ _ _ hP) (cn_pol2 hm) ?_
  have h1 : Cg m (ev2 (lwideM m P R s)) fun x y => ev2 P x y + ev1 s.1 (ev2 R x y + s.2) := by
    unfold lwideM
    refine ((cg_wideGo s.1 P [[1]]).trans (Cg.rfl'.add (Cg.rfl'.mul (cg_e1 (f := s.1) cg_add (isP_ev2.add (isP_c.mul isP_ev2))) isP_ev2 (isP_e1 (isP_ev2.add (isP_c.mul isP_ev2)))))).rhs fun x y => ?_
    rw [ev_one, Int.mul_one, Int.one_mul]
  exact h1.trans (cg_plus2.trans (Cg.rfl'.add cg_wk)).symm
/-! tables -/
def dot (B : Nat → Int → Int) (l : List Int) (z : Int) : Int := lsum (List.range l.length) fun j => co l j * B j z
def dot2 (B : Nat → Int → Int) (P : List (List Int)) : Fn := fun x y => lsum (List.range P.length) fun i => B i x * dot B (rowM P i) y
def pwB (k : Nat) (z : Int) : Int := z ^ k
/-- x less k, x less k + 1, and so on -/
def FF : Nat → Nat → Int → Int
  | _, 0, _ => 1
  | k, i + 1, y => (y - k) * FF (k + 1) i y
theorem FF_end {y : Int} : ∀ {i k : Nat}, FF k (i + 1) y = FF k i y * (y - ((k + i : Nat) : Int))
  | 0, k => by simp [FF]
  | i + 1, k => by
    show (y - k) * FF (k + 1) (i + 1) y = (y - k) * FF (k + 1) i y * _
    rw [FF_end (i := i) (k := k + 1), show k + 1 + i = k + (i + 1) by omega, Int.mul_assoc]
theorem isP_FF : ∀ {i k : Nat} {A : Fn}, IsP A → IsP fun x y => FF k i (A x y)
  | 0, k, A, _ => (isP_c (c := 1)).of fun _ _ => rfl
  | i + 1, k, A, h => ((h.sub (isP_c (c := (k : Int)))).mul (isP_FF (i := i) (k := k + 1) h)).of fun _ _ => rfl
theorem dot_sum {B : Nat → Int → Int} {l : List Int} {z : Int} : ∀ {n : Nat}, l.length ≤ n → dot B l z = lsum (List.range n) fun j => co l j * B j z := fun {n} h => by
  obtain ⟨d, rfl⟩ := Nat.exists_eq_add_of_le h
  induction d with
  | zero => rfl
  | succ d ih =>
    rw [show l.length + (d + 1) = (l.length + d) + 1 by omega, lsum_rangeS, ← ih (by omega), co_out (by omega)]
    omega
theorem dot_pw {l : List Int} {z : Int} : dot pwB l z = ev1 l z := (ev1_sum (Nat.le_refl _)).symm
theorem dot2_pw {P : List (List Int)} {x y : Int} : dot2 pwB P x y = ev2 P x y := by
  unfold dot2
  rw [ev2_sum (Nat.le_refl _)]
  exact lsum_congr fun i _ => by rw [dot_pw]; rfl
theorem isP_dot {B : Nat → Int → Int} (hB : ∀ k (A : Fn), IsP A → IsP fun x y => B k (A x y)) {l : List Int} {A : Fn} (h : IsP A) : IsP fun x y => dot B l (A x y) := isP_lsum (T := fun j => fun x y => co l j * B j (A x y)) fun j _ => isP_c.mul (hB j A h)
theorem isP_dot2 {B : Nat → Int → Int} (hB : ∀ k (A : Fn), IsP A → IsP fun x y => B k (A x y)) {P : List (List Int)} : IsP (dot2 B P) :=
  isP_lsum (T := fun i => fun x y => B i x * dot B (rowM P i) y) fun i _ => (hB i _ isP_x).mul (isP_dot hB isP_y)
theorem isP_pwB (k : Nat) (A : Fn) (h : IsP A) : IsP fun x y => pwB k (A x y) := h.pow k
theorem isP_FF0 (k : Nat) (A : Fn) (h : IsP A) : IsP fun x y => FF 0 k (A x y) := isP_FF h
theorem lsum_swap {α β : Type} {t : α → β → Int} : ∀ {l : List α} {l' : List β}, (lsum l fun a => lsum l' fun b => t a b) = lsum l' fun b => lsum l fun a => t a b
  | [], l' => by simp only [lsum]; rw [lsum_zero]
  | a :: l, l' => by
    rw [lsum_cons, lsum_swap, ← lsum_add]; rfl
theorem co_pad {n j : Nat} {f : List Int} : co (pad n f) j = co f j := by
  unfold co pad
  rw [List.getD_eq_getElem?_getD, List.getD_eq_getElem?_getD]
  by_cases h : j < f.length
  · rw [List.getElem?_append_left h]
  · rw [List.getElem?_append_right (by omega), List.getElem?_eq_none (l := f) (by omega), List.getElem?_replicate]
    split <;> rfl
theorem dot_pad {B : Nat → Int → Int} {n : Nat} {f : List Int} {z : Int} (h : f.length ≤ n) : dot B (pad n f) z = dot B f z := by
  rw [dot_sum (l := f) h, dot_sum (l := pad n f) (Nat.le_of_eq (pad_len h))]
  exact lsum_congr fun j _ => by rw [co_pad]
theorem co_map1 {g : List Int → Int} {P : List (List Int)} {i : Nat} (h : i < P.length) : co (P.map g) i = g (rowM P i) := by
  unfold co rowM
  rw [List.getD_eq_getElem?_getD, List.getD_eq_getElem?_getD, List.getElem?_map, List.getElem?_eq_getElem h]; rfl
theorem row_map1 {g : List Int → List Int} {P : List (List Int)} {i : Nat} (h : i < P.length) : rowM (P.map g) i = g (rowM P i) := by
  unfold rowM
  rw [List.getD_eq_getElem?_getD, List.getD_eq_getElem?_getD, List.getElem?_map, List.getElem?_eq_getElem h]; rfl
theorem row_mem {P : List (List Int)} {i : Nat} (h : i < P.length) : rowM P i ∈ P := by
  unfold rowM
  rw [List.getD_eq_getElem?_getD, List.getElem?_eq_getElem h]
  exact List.getElem_mem h
/-- by rows, then by columns -/
theorem cg_tab {f : List Int → List Int} {B C : Nat → Int → Int} (hl : ∀ l, (f l).length = l.length) (hf : ∀ l, Cg m (fun _ y => dot C (f l) y) fun _ y => dot B l y)
    (hB : ∀ k (A : Fn), IsP A → IsP fun x y => B k (A x y)) (hC : ∀ k (A : Fn), IsP A → IsP fun x y => C k (A x y)) (P : List (List Int)) : Cg m (dot2 C (tabT f P)) (dot2 B P) := by
  have hrl : ∀ i, i < P.length → (rowM (P.map fun row => f (pad (wide P) row)) i) = f (pad (wide P) (rowM P i)) := fun i hi => row_map1 hi
  -- the columns
  have e1 : ∀ x y, dot2 C (tabT f P) x y = lsum (List.range (wide P)) fun j => C j y * dot C (f ((P.map fun row => f (pad (wide P) row)).map fun row => co row j)) x := fun x y => by
    unfold dot2
    rw [tabT_len]
    have : ∀ i ∈ List.range P.length, C i x * dot C (rowM (tabT f P) i) y = lsum (List.range (wide P)) fun j => C j y * (co (f ((P.map fun row => f (pad (wide P) row)).map fun row => co row j)) i * C i x) := fun i hi => by
      have hi := List.mem_range.mp hi
      unfold tabT
      rw [row_range hi, dot_sum (n := wide P) (by rw [List.length_map, List.length_map, List.length_range]; exact Nat.le_refl _), ← lsum_mul]
      refine lsum_congr fun j hj => ?_
      have hj := List.mem_range.mp hj
      rw [co_map1 (by rw [List.length_map, List.length_range]; exact hj), row_range hj]
      grind
    rw [lsum_congr this, lsum_swap]
    refine lsum_congr fun j _ => ?_
    rw [lsum_mul, dot_sum (n := P.length) (by rw [hl, List.length_map, List.length_map]; exact Nat.le_refl _)]
  refine Cg.lhs ?_ e1
  have h1 : ∀ j, Cg m (fun x y => dot C (f ((P.map fun row => f (pad (wide P) row)).map fun row => co row j)) x) fun x y => dot B ((P.map fun row => f (pad (wide P) row)).map fun row => co row j) x := fun j => (hf _).comp isP_x isP_x
  refine (cg_lsum (l := List.range (wide P)) fun j _ => (Cg.rfl' (F := fun _ y => C j y)).mul (h1 j) (hC j _ isP_y) (isP_dot hB isP_x)).trans ?_
  -- the rows
  have e2 : ∀ x y, (lsum (List.range (wide P)) fun j => C j y * dot B ((P.map fun row => f (pad (wide P) row)).map fun row => co row j) x) = lsum (List.range P.length) fun i => B i x * dot C (f (pad (wide P) (rowM P i))) y := fun x y => by
    have : ∀ j ∈ List.range (wide P), C j y * dot B ((P.map fun row => f (pad (wide P) row)).map fun row => co row j) x = lsum (List.range P.length) fun i => B i x * (co (f (pad (wide P) (rowM P i))) j * C j y) := fun j _ => by
      rw [dot_sum (n := P.length) (by rw [List.length_map, List.length_map]; exact Nat.le_refl _), ← lsum_mul]
      refine lsum_congr fun i hi => ?_
      have hi := List.mem_range.mp hi
      rw [co_map1 (by rw [List.length_map]; exact hi), hrl i hi]
      grind
    rw [lsum_congr this, lsum_swap]
    refine lsum_congr fun i hi => ?_
    have hi := List.mem_range.mp hi
    rw [lsum_mul, dot_sum (n := wide P) (by rw [hl, pad_len (wide_mem (row_mem hi))]; exact Nat.le_refl _)]
  refine Cg.lhs ?_ e2
  refine cg_lsum (l := List.range P.length) (T' := fun i => fun x y => B i x * dot B (rowM P i) y) fun i hi => (Cg.rfl' (F := fun x _ => B i x)).mul ((hf _).rhs fun x y => ?_) (hB i _ isP_x) (isP_dot hB isP_y)
  exact dot_pad (wide_mem (row_mem (List.mem_range.mp hi)))
/-! parts -/
theorem head_tail (s : List Int) (y : Int) : ev1 s y = s.headD 0 + y * ev1 s.tail y := by
  cases s with
  | nil => simp [ev1]
  | cons a s => rfl
theorem cg_syn {k : Int} : ∀ (l : List Int), Cg m (e1 l) fun _ y => (syn m k l).headD 0 + (y - k) * ev1 (syn m k l).tail y
  | [] => Cg.of fun x y => by simp [e1, ev1, syn]
  | a :: l => by
    have ih := cg_syn (k := k) l
    have h1 := (Cg.rfl' (m := m) (F := fun _ _ => a)).add ((Cg.rfl' (F := fun _ y => y)).mul ih isP_y (isP_c.add ((isP_y.sub isP_c).mul isP_1)))
    refine ((h1.lhs (F2 := e1 (a :: l)) fun x y => rfl)).trans ⟨fun _ _ => (((syn m k l).headD 0) * k + a) / m, isP_c, fun x y => ?_⟩
    show a + y * ((syn m k l).headD 0 + (y - k) * ev1 (syn m k l).tail y) = ((((syn m k l).headD 0) * k + a) % m) + (y - k) * ev1 (syn m k l) y + m * _
    rw [head_tail (syn m k l) y]
    have := Int.emod_add_mul_ediv ((syn m k l).headD 0 * k + a) m
    grind
theorem cg_partN : ∀ (n k : Nat) (l : List Int), l.length ≤ n → Cg m (fun _ y => lsum (List.range n) fun i => co (partN m n k l) i * FF k i y) (e1 l)
  | 0, k, l, h => by
    rw [List.length_eq_zero_iff.mp (Nat.le_zero.mp h)]
    exact Cg.of fun _ _ => rfl
  | n + 1, k, l, h => by
    have ih := cg_partN n (k + 1) (syn m (k : Int) l).tail (by rw [List.length_tail, syn_len]; omega)
    refine Cg.trans ?_ (cg_syn (k := (k : Int)) l).symm
    refine ((Cg.rfl' (F := fun _ _ => (syn m (k : Int) l).headD 0)).add ((Cg.rfl' (F := fun _ y => y - (k : Int))).mul ih (isP_y.sub isP_c) isP_1)).lhs fun x y => ?_
    rw [lsum_range0]
    show ((syn m (k : Int) l).headD 0) * 1 + _ = _
    rw [Int.mul_one, ← lsum_mul]
    congr 1
    refine lsum_congr fun i _ => ?_
    show co (partN m n (k + 1) (syn m (k : Int) l).tail) i * ((y - k) * FF (k + 1) i y) = _
    grind
theorem cg_part (l : List Int) : Cg m (fun _ y => dot (FF 0) (partM m l) y) fun _ y => dot pwB l y := by
  refine ((cg_partN l.length 0 l (Nat.le_refl _)).lhs fun x y => ?_).rhs fun x y => dot_pw.symm
  exact dot_sum (Nat.le_of_eq partM_len)
theorem cg_parts (A : List (List Int)) : Cg m (dot2 (FF 0) (parts2M m A)) (ev2 A) := (cg_tab (fun l => partM_len) cg_part isP_pwB isP_FF0 A).rhs fun x y => dot2_pw
/-! sums -/
def un (m c : Int) : List Int → List Int
  | [] => []
  | [a] => [a]
  | a :: b :: l => (a - c * b) % m :: un m c (b :: l)
theorem un_len {c : Int} : ∀ {l : List Int}, (un m c l).length = l.length
  | [] => rfl
  | [a] => rfl
  | a :: b :: l => by
    show ((a - c * b) % m :: un m c (b :: l)).length = _
    rw [List.length_cons, un_len]; rfl
theorem cg_un {c : Int} : ∀ (a : Int) (l : List Int), Cg m (e1 (un m c (a :: l))) fun _ y => a + (y - c) * ev1 l y
  | a, [] => Cg.of fun x y => by simp [e1, un, ev1]
  | a, b :: l => by
    refine ((Cg.rfl' (F := fun _ _ => (a - c * b) % m)).add ((Cg.rfl' (F := fun _ y => y)).mul (cg_un b l) isP_y (isP_c.add ((isP_y.sub isP_c).mul isP_1)))).lhs (F2 := e1 (un m c (a :: b :: l))) (fun x y => rfl) |>.trans ⟨fun _ _ => -((a - c * b) / m), isP_c, fun x y => ?_⟩
    show (a - c * b) % m + y * (b + (y - c) * ev1 l y) = a + (y - c) * (b + y * ev1 l y) + m * -((a - c * b) / m)
    have := Int.emod_add_mul_ediv (a - c * b) m
    grind
theorem fil_range : ∀ (d k : Nat), ((List.range (k + d)).filter fun i => decide (k ≤ i)) = (List.range d).map fun i => k + i := fun d => by
  induction d with
  | zero =>
    intro k
    rw [List.filter_eq_nil_iff.mpr]
    · rfl
    · intro i hi
      have := List.mem_range.mp hi
      simp; omega
  | succ d ih =>
    intro k
    rw [show k + (d + 1) = (k + d) + 1 by omega, List.range_succ, List.filter_append, ih k, List.range_succ, List.map_append]
    congr 1
    simp
theorem fil_cons {n o : Nat} (h : o < n) : ((List.range n).filter fun i => decide (o ≤ i)) = o :: (List.range n).filter fun i => decide (o + 1 ≤ i) := by
  obtain ⟨d, rfl⟩ := Nat.exists_eq_add_of_lt h
  rw [show o + d + 1 = o + (d + 1) by omega, fil_range, show o + (d + 1) = (o + 1) + d by omega, fil_range, List.range_succ_eq_map, List.map_cons, List.map_map]
  congr 1
  apply List.map_congr_left
  intro i _
  show o + (i + 1) = o + 1 + i
  omega
theorem fil_nil {n o : Nat} (h : n ≤ o) : ((List.range n).filter fun i => decide (o ≤ i)) = [] := by
  rw [List.filter_eq_nil_iff]
  intro i hi
  have := List.mem_range.mp hi
  simp; omega
theorem co_app {pre suf : List Int} {k : Nat} : co (pre ++ suf) (pre.length + k) = co suf k := by
  unfold co
  rw [List.getD_eq_getElem?_getD, List.getD_eq_getElem?_getD, List.getElem?_append_right (by omega)]
  congr 2
  omega
theorem set_app {pre suf : List Int} {k : Nat} {v : Int} : (pre ++ suf).set (pre.length + k) v = pre ++ suf.set k v := by
  rw [List.set_append_right _ _ (by omega)]
  congr 2
  omega
theorem un_fold {c : Int} : ∀ (suf pre : List Int), ((List.range ((pre ++ suf).length - 1)).filter fun i => decide (pre.length ≤ i)).foldl (fun l i => l.set i ((co l i - c * co l (i + 1)) % m)) (pre ++ suf) = pre ++ un m c suf
  | [], pre => by rw [fil_nil (by simp)]; rfl
  | [a], pre => by rw [fil_nil (by simp)]; rfl
  | a :: b :: l, pre => by
    rw [fil_cons (by simp), List.foldl_cons]
    have h1 : co (pre ++ a :: b :: l) pre.length = a := by
      have := co_app (pre := pre) (suf := a :: b :: l) (k := 0)
      exact this
    have h2 : co (pre ++ a :: b :: l) (pre.length + 1) = b := co_app (pre := pre) (suf := a :: b :: l) (k := 1)
    have h3 : (pre ++ a :: b :: l).set pre.length ((a - c * b) % m) = (pre ++ [(a - c * b) % m]) ++ b :: l := by
      have := set_app (pre := pre) (suf := a :: b :: l) (k := 0) (v := (a - c * b) % m)
      rw [Nat.add_zero] at this
      rw [this]; simp
    rw [h1, h2, h3]
    have ih := un_fold (c := c) (b :: l) (pre ++ [(a - c * b) % m])
    rw [show (pre ++ a :: b :: l).length = ((pre ++ [(a - c * b) % m]) ++ b :: l).length by simp, show pre.length + 1 = (pre ++ [(a - c * b) % m]).length by simp, ih]
    show _ = pre ++ ((a - c * b) % m :: un m c (b :: l))
    simp
def unsp (m : Int) : Nat → List Int → List Int
  | _, [] => []
  | k, a :: l => un m k (a :: unsp m (k + 1) l)
theorem unsp_len : ∀ {l : List Int} {k : Nat}, (unsp m k l).length = l.length
  | [], k => rfl
  | a :: l, k => by
    show (un m k (a :: unsp m (k + 1) l)).length = _
    rw [un_len, List.length_cons, unsp_len, List.length_cons]
theorem unsp_fold : ∀ (suf pre : List Int), (List.range' pre.length suf.length).foldr (fun k a => unsplitK m k a) (pre ++ suf) = pre ++ unsp m pre.length suf
  | [], pre => rfl
  | a :: l, pre => by
    rw [List.length_cons, List.range'_succ, List.foldr_cons]
    have ih := unsp_fold l (pre ++ [a])
    rw [show (pre ++ [a]).length = pre.length + 1 by simp, List.append_assoc] at ih
    rw [show pre ++ a :: l = pre ++ ([a] ++ l) from rfl, ih, List.append_assoc]
    have := un_fold (m := m) (c := (pre.length : Int)) ([a] ++ unsp m (pre.length + 1) l) pre
    exact this
theorem unsplit_eq {l : List Int} : unsplitM m l = unsp m 0 l := by
  unfold unsplitM
  rw [List.foldl_reverse, List.range_eq_range']
  exact unsp_fold l []
theorem cg_unsp : ∀ (l : List Int) (k : Nat), Cg m (e1 (unsp m k l)) fun _ y => lsum (List.range l.length) fun j => co l j * FF k j y
  | [], k => Cg.of fun _ _ => rfl
  | a :: l, k => by
    refine ((cg_un a (unsp m (k + 1) l)).trans ((Cg.rfl' (F := fun _ _ => a)).add ((Cg.rfl' (F := fun _ y => y - (k : Int))).mul (cg_unsp l (k + 1)) (isP_y.sub isP_c) ?_))).rhs fun x y => ?_
    · exact isP_lsum (T := fun j => fun _ y => co l j * FF (k + 1) j y) fun j _ => isP_c.mul (isP_FF isP_y)
    · rw [List.length_cons, lsum_range0, ← lsum_mul]
      show _ = a * 1 + _
      rw [Int.mul_one]
      congr 1
      refine lsum_congr fun j _ => ?_
      show _ = co l j * ((y - k) * FF (k + 1) j y)
      grind
theorem cg_unsplit (l : List Int) : Cg m (fun _ y => dot pwB (unsplitM m l) y) fun _ y => dot (FF 0) l y := by
  refine Cg.lhs (F := e1 (unsp m 0 l)) ?_ fun x y => by rw [dot_pw, unsplit_eq]; rfl
  exact cg_unsp l 0
theorem cg_sum {t : List (List Int)} : Cg m (ev2 (sumM m t)) (dot2 (FF 0) t) := by
  unfold sumM
  refine cg_pol2.trans (Cg.lhs (cg_tab (fun l => unsplitM_len) cg_unsplit isP_FF0 isP_pwB t) fun x y => dot2_pw.symm)
/-! the law's dividing is the program's -/
theorem syn_red (hm : 0 < m) {k : Int} : ∀ {l : List Int}, Red m (syn m k l)
  | [] => red_nil
  | a :: l => fun c hc => by
    rcases List.mem_cons.mp hc with rfl | hc
    · exact ⟨Int.emod_nonneg _ (by omega), Int.emod_lt_of_pos _ hm⟩
    · exact syn_red hm c hc
theorem down_cons {n o : Nat} (h : o < n) : downTo n o = downTo n (o + 1) ++ [o] := by
  unfold downTo
  rw [fil_cons h, List.reverse_cons]
theorem down_nil {n o : Nat} (h : n ≤ o) : downTo n o = [] := by
  unfold downTo
  rw [fil_nil h]; rfl
theorem syn_fold (hm : 0 < m) {c : Int} : ∀ (suf pre : List Int), Red m suf → (downTo ((pre ++ suf).length - 1) pre.length).foldl (fun l i => l.set i ((co l i + c * co l (i + 1)) % m)) (pre ++ suf) = pre ++ syn m c suf
  | [], pre, _ => by rw [down_nil (by simp)]; rfl
  | [a], pre, h => by
    rw [down_nil (by simp)]
    show pre ++ [a] = pre ++ [(0 * c + a) % m]
    have := h a List.mem_cons_self
    rw [Int.zero_mul, Int.zero_add, Int.emod_eq_of_lt this.1 this.2]
  | a :: b :: l, pre, h => by
    have ih := syn_fold hm (c := c) (b :: l) (pre ++ [a]) fun x hx => h x (List.mem_cons_of_mem _ hx)
    rw [down_cons (by simp), List.foldl_append]
    rw [show (pre ++ [a]).length = pre.length + 1 by simp, List.append_assoc] at ih
    rw [show pre ++ a :: b :: l = pre ++ ([a] ++ b :: l) from rfl, ih]
    show ((pre ++ [a]) ++ syn m c (b :: l)).set pre.length _ = pre ++ syn m c (a :: b :: l)
    generalize hs : syn m c (b :: l) = s
    have e : syn m c (a :: b :: l) = ((s.headD 0) * c + a) % m :: s := by rw [← hs]; rfl
    have h1 : co ((pre ++ [a]) ++ s) pre.length = a := by
      rw [List.append_assoc]
      exact co_app (pre := pre) (suf := [a] ++ s) (k := 0)
    have h2 : co ((pre ++ [a]) ++ s) (pre.length + 1) = s.headD 0 := by
      rw [List.append_assoc]
      have := co_app (pre := pre) (suf := [a] ++ s) (k := 1)
      rw [this]
      cases s with
      | nil => rfl
      | cons x s => rfl
    rw [e, h1, h2, List.append_assoc]
    have := set_app (pre := pre) (suf := [a] ++ s) (k := 0) (v := (a + c * s.headD 0) % m)
    rw [Nat.add_zero] at this
    rw [this]
    show pre ++ ((a + c * s.headD 0) % m :: s) = _
    rw [Int.add_comm, Int.mul_comm]
theorem split_fold (hm : 0 < m) : ∀ (n : Nat) (suf pre : List Int), suf.length = n → Red m suf → (List.range' pre.length n).foldl (fun a k => splitK m k a) (pre ++ suf) = pre ++ partN m n pre.length suf
  | 0, suf, pre, h, _ => by rw [List.length_eq_zero_iff.mp h]; rfl
  | n + 1, suf, pre, h, hr => by
    rw [List.range'_succ, List.foldl_cons]
    have e1 : splitK m pre.length (pre ++ suf) = pre ++ syn m (pre.length : Int) suf := syn_fold hm suf pre hr
    rw [e1]
    have hl := syn_len (m := m) (k := (pre.length : Int)) (l := suf)
    have hred := syn_red hm (k := (pre.length : Int)) (l := suf)
    show _ = pre ++ ((syn m (pre.length : Int) suf).headD 0 :: partN m n (pre.length + 1) (syn m (pre.length : Int) suf).tail)
    generalize syn m (pre.length : Int) suf = s at hl hred
    cases s with
    | nil => rw [h] at hl; cases hl
    | cons x s =>
      have ih := split_fold hm n s (pre ++ [x]) (by rw [List.length_cons] at hl; omega) fun c hc => hred c (List.mem_cons_of_mem _ hc)
      rw [show (pre ++ [x]).length = pre.length + 1 by simp, List.append_assoc, List.append_assoc] at ih
      exact ih
theorem split_eq (hm : 0 < m) {l : List Int} (h : Red m l) : splitM m l = partM m l := by
  unfold splitM partM
  rw [List.range_eq_range']
  exact split_fold hm l.length l [] rfl h
theorem red_partN (hm : 0 < m) : ∀ {n k : Nat} {l : List Int}, Red m (partN m n k l)
  | 0, _, _ => red_nil
  | n + 1, k, l => fun c hc => by
    rcases List.mem_cons.mp hc with rfl | hc
    · have := syn_red hm (k := (k : Int)) (l := l)
      cases hs : syn m (k : Int) l with
      | nil => exact ⟨Int.le_refl _, hm⟩
      | cons x s => rw [hs] at this; exact this x List.mem_cons_self
    · exact red_partN hm c hc
theorem red_co (hm : 0 < m) {l : List Int} (h : Red m l) (j : Nat) : 0 ≤ co l j ∧ co l j < m := by
  by_cases hk : j < l.length
  · exact h.at hk
  · rw [co_out hk]; exact ⟨Int.le_refl _, hm⟩
theorem red_pad (hm : 0 < m) {n : Nat} {l : List Int} (h : Red m l) : Red m (pad n l) := fun c hc => by
  unfold pad at hc
  rcases List.mem_append.mp hc with hc | hc
  · exact h c hc
  · rw [(List.mem_replicate.mp hc).2]; exact ⟨Int.le_refl _, hm⟩
theorem lparts_eq (hm : 0 < m) {A : List (List Int)} (h : RedR m A) : lpartsM m A = parts2M m A := by
  unfold lpartsM parts2M tabT
  have e : A.map (fun row => splitM m (pad (wide A) row)) = A.map fun row => partM m (pad (wide A) row) := List.map_congr_left fun row hr => split_eq hm (red_pad hm (h row hr))
  dsimp only
  rw [e]
  have e2 : (List.range (wide A)).map (fun j => splitM m ((A.map fun row => partM m (pad (wide A) row)).map fun row => co row j)) = (List.range (wide A)).map fun j => partM m ((A.map fun row => partM m (pad (wide A) row)).map fun row => co row j) :=
    List.map_congr_left fun j _ => split_eq hm fun c hc => by
      obtain ⟨row, hr, rfl⟩ := List.mem_map.mp hc
      obtain ⟨r0, _, rfl⟩ := List.mem_map.mp hr
      exact red_co hm (red_partN hm) j
  rw [e2]
theorem red_tab (hm : 0 < m) {A : List (List Int)} : RedR m (parts2M m A) := fun r hr => by
  unfold parts2M tabT at hr
  obtain ⟨i, _, rfl⟩ := List.mem_map.mp hr
  intro c hc
  obtain ⟨col, hcol, rfl⟩ := List.mem_map.mp hc
  obtain ⟨j, _, rfl⟩ := List.mem_map.mp hcol
  exact red_co hm (red_partN hm) i
end
end Nf

set_option Elab.async false
set_option linter.all false
/-! Plain mathematics, fourth part: what is built of neighbours; falling products; what is nought everywhere; least forms. -/
namespace Nf
open Mz
section
variable {m : Int}
theorem cg_nb : ∀ k : Nat, Cg m (e1 (nb m k)) fun _ y => FF 0 k y
  | 0 => cg_pol.rhs fun x y => by simp [e1, ev1, FF]
  | k + 1 => by
    show Cg m (e1 (timesM m (nb m k) (pol m [-(k : Int), 1]))) _
    refine (cg_times1.trans ((cg_nb k).mul (cg_pol (xs := [-(k : Int), 1])) (isP_FF isP_y) isP_1)).rhs fun x y => ?_
    rw [FF_end]
    show _ * ev1 [-(k : Int), 1] y = _
    simp only [ev1]
    rw [Nat.zero_add]
    congr 1
    omega
theorem lsum_enB {B : Nat → Int → Int} {z : Int} : ∀ {l : List Int} {k : Nat}, (lsum (en k l) fun q => q.2 * B q.1 z) = lsum (List.range l.length) fun j => co l j * B (k + j) z
  | [], k => rfl
  | c :: l, k => by
    unfold en
    rw [lsum_cons, lsum_enB, List.length_cons, lsum_range0]
    congr 1
    refine lsum_congr fun j _ => ?_
    rw [co_consS, show k + 1 + j = k + (j + 1) by omega]
theorem lsum_enB2 {B : Nat → Int → Int} {g : List Int → Int} {z : Int} : ∀ {l : List (List Int)} {k : Nat}, (lsum (en k l) fun q => B q.1 z * g q.2) = lsum (List.range l.length) fun j => B (k + j) z * g (rowM l j)
  | [], k => rfl
  | c :: l, k => by
    unfold en
    rw [lsum_cons, lsum_enB2, List.length_cons, lsum_range0]
    congr 1
    refine lsum_congr fun j _ => ?_
    rw [row_consS, show k + 1 + j = k + (j + 1) by omega]
theorem cg_inner {row : List Int} : Cg m (e1 (innerM m row)) fun _ y => dot (FF 0) row y := by
  have h := fold_cg (m := m) e1 (fun _ => True) (fun q => fun _ y => q.2 * FF 0 q.1 y) (g := fun inner q => if q.2 % m = 0 then inner else plusM m inner (timesM m (nb m q.1) (pol m [q.2]))) (en 0 row) [] trivial fun inner q hq _ => ⟨trivial, ?_⟩
  · refine h.2.rhs fun x y => ?_
    rw [lsum_enB]
    show 0 + _ = _
    rw [Int.zero_add]
    exact lsum_congr fun j _ => by rw [Nat.zero_add]
  · by_cases hz : q.2 % m = 0
    · rw [if_pos hz]
      refine ⟨fun _ y => -(q.2 / m) * FF 0 q.1 y, isP_c.mul (isP_FF isP_y), fun x y => ?_⟩
      have := Int.emod_add_mul_ediv q.2 m
      rw [hz] at this
      dsimp only
      grind
    · rw [if_neg hz]
      refine (cg_plus1.trans ((Cg.rfl' (F := e1 inner)).add (cg_times1.trans ((cg_nb q.1).mul (cg_pol (xs := [q.2])) (isP_FF isP_y) isP_1)))).rhs fun x y => ?_
      show ev1 inner y + _ * ev1 [q.2] y = ev1 inner y + _
      simp only [ev1]
      grind
theorem cg_spread {inner side : List Int} {found : List (List Int)} (hl : side.length ≤ found.length) : (spread m inner side found).length = found.length ∧ Cg m (ev2 (spread m inner side found)) fun x y => ev2 found x y + ev1 inner y * ev1 side x := by
  have h := fold_cg (m := m) ev2 (fun acc : List (List Int) => acc.length = found.length) (fun q => fun x y => x ^ q.1 * (ev1 inner y * q.2)) (g := fun acc q => acc.set q.1 (plusM m (rowM acc q.1) (timesM m inner (pol m [q.2])))) (en 0 side) found rfl
    fun acc q hq hl2 => ⟨by rw [List.length_set]; exact hl2, ?_⟩
  · refine ⟨h.1, h.2.rhs fun x y => ?_⟩
    have e := lsum_en1 (y := x) (f := side) (k := 0)
    rw [Int.pow_zero, Int.one_mul] at e
    rw [← e, ← lsum_mul]
    congr 1
    exact lsum_congr fun q _ => by grind
  · have h1 := (en_mem hq).1
    refine cg_set2 (by omega) ((cg_plus1.trans ((Cg.rfl' (F := e1 _)).add (cg_times1.trans ((Cg.rfl' (F := e1 inner)).mul (cg_pol (xs := [q.2])) isP_1 isP_1)))).rhs fun x y => ?_) (isP_1.mul isP_c)
    show ev1 _ y + ev1 inner y * ev1 [q.2] y = _
    simp [ev1]
theorem cg_built {t : List (List Int)} : Cg m (ev2 (builtM m t)) (dot2 (FF 0) t) := by
  refine (cg_pol2 (m := m)).trans ?_
  have h := fold_cg (m := m) ev2 (fun acc : List (List Int) => acc.length = t.length) (fun q => fun x y => FF 0 q.1 x * dot (FF 0) q.2 y)
    (g := fun acc q => if innerM m q.2 = [] then acc else spread m (innerM m q.2) (nb m q.1) acc) (en 0 t) (List.replicate t.length []) (by simp) fun acc q hq hl => ?_
  · refine h.2.rhs fun x y => ?_
    rw [ev2_rep rfl, Int.zero_add, lsum_enB2 (g := fun row => dot (FF 0) row y)]
    exact lsum_congr fun j _ => by rw [Nat.zero_add]
  · have h1 := (en_mem hq).1
    have hi := cg_inner (m := m) (row := q.2)
    have hx : Cg m (fun x y => ev1 (nb m q.1) x) fun x y => FF 0 q.1 x := (cg_nb q.1).comp isP_x isP_x
    by_cases hz : innerM m q.2 = []
    · rw [if_pos hz]
      refine ⟨hl, ?_⟩
      rw [hz] at hi
      refine ((Cg.rfl' (F := ev2 acc)).add ((Cg.rfl' (F := fun x _ => FF 0 q.1 x)).mul hi (isP_FF isP_x) (isP_dot isP_FF0 isP_y))).lhs fun x y => ?_
      show _ = _ + _ * 0
      omega
    · rw [if_neg hz]
      have hn := nb_len (m := m) q.1
      have hs := cg_spread (m := m) (inner := innerM m q.2) (side := nb m q.1) (found := acc) (by omega)
      refine ⟨hs.1.trans hl, (hs.2.trans ((Cg.rfl' (F := ev2 acc)).add (hi.mul hx (isP_dot isP_FF0 isP_y) (isP_FF isP_x)))).rhs fun x y => by rw [Int.mul_comm]⟩
theorem cn_built (hm : 0 < m) {t : List (List Int)} : Cn2 m (builtM m t) := cn_pol2 hm
theorem sum_built (hm : 0 < m) {t : List (List Int)} : sumM m t = builtM m t := cg_eq hm (cn_pol2 hm) (cn_built hm) (cg_sum.trans cg_built.symm)
theorem lleast_eq (hm : 0 < m) {A : List (List Int)} (h : RedR m A) : lleastM m A = least2M m A := by
  unfold lleastM least2M
  rw [sum_built hm, lparts_eq hm h]
/-! falling products at whole numbers from 0 on -/
theorem FF_shift {y : Int} : ∀ {i k : Nat}, FF (k + 1) i (y + 1) = FF k i y
  | 0, k => rfl
  | i + 1, k => by
    show (y + 1 - ((k + 1 : Nat) : Int)) * FF (k + 1 + 1) i (y + 1) = (y - k) * FF (k + 1) i y
    rw [FF_shift]
    congr 1
    omega
theorem FF_up {y : Int} {s : Nat} : FF 0 (s + 1) (y + 1) = (y + 1) * FF 0 s y := by
  show (y + 1 - ((0 : Nat) : Int)) * FF 1 s (y + 1) = _
  rw [FF_shift]
  congr 1
  omega
theorem FF_pas {y : Int} {s : Nat} : FF 0 (s + 1) (y + 1) = FF 0 (s + 1) y + ((s + 1 : Nat) : Int) * FF 0 s y := by
  rw [FF_up, FF_end, Nat.zero_add]
  have : ((s + 1 : Nat) : Int) = (s : Int) + 1 := by omega
  rw [this]
  grind
theorem fac_dvd : ∀ (x s : Nat), ((fac s : Nat) : Int) ∣ FF 0 s (x : Int)
  | x, 0 => ⟨FF 0 0 x, by simp [fac]⟩
  | 0, s + 1 => ⟨0, by
    show (((0 : Nat) : Int) - ((0 : Nat) : Int)) * _ = _
    simp⟩
  | x + 1, s + 1 => by
    rw [show ((x + 1 : Nat) : Int) = (x : Int) + 1 by omega, FF_pas]
    refine Int.dvd_add (fac_dvd x (s + 1)) ?_
    obtain ⟨c, hc⟩ := fac_dvd x s
    exact ⟨c, by rw [hc, show fac (s + 1) = (s + 1) * fac s from rfl, Int.natCast_mul, Int.mul_assoc]⟩
theorem FF_zero : ∀ {s x : Nat}, x < s → FF 0 s (x : Int) = 0
  | s + 1, x, h => by
    rw [FF_end, Nat.zero_add]
    by_cases e : x = s
    · subst e; simp
    · rw [FF_zero (s := s) (x := x) (by omega), Int.zero_mul]
theorem FF_diag : ∀ {s : Nat}, FF 0 s (s : Int) = (fac s : Int)
  | 0 => rfl
  | s + 1 => by
    rw [show ((s + 1 : Nat) : Int) = (s : Int) + 1 by omega, FF_up, FF_diag, show fac (s + 1) = (s + 1) * fac s from rfl, Int.natCast_mul]
    congr 1
theorem dvd_lsum {α : Type} {D : Int} {t : α → Int} : ∀ {l : List α}, (∀ a ∈ l, D ∣ t a) → D ∣ lsum l t
  | [], _ => ⟨0, by simp [lsum]⟩
  | a :: l, h => Int.dvd_add (h a List.mem_cons_self) (dvd_lsum fun b hb => h b (List.mem_cons_of_mem _ hb))
theorem dvd_one {D : Int} {t : Nat → Int} {i : Nat} : ∀ {n : Nat}, i < n → (∀ s, s < n → s ≠ i → D ∣ t s) → D ∣ lsum (List.range n) t → D ∣ t i
  | 0, h, _, _ => absurd h (Nat.not_lt_zero _)
  | n + 1, h, ho, hs => by
    rw [lsum_rangeS] at hs
    by_cases e : i = n
    · subst e
      have h1 : D ∣ lsum (List.range i) t := dvd_lsum fun s hs => ho s (by have := List.mem_range.mp hs; omega) (by have := List.mem_range.mp hs; omega)
      exact (Int.dvd_add_right h1).mp hs
    · have h1 := ho n (by omega) (fun z => e z.symm)
      exact dvd_one (n := n) (by omega) (fun s hs' => ho s (by omega)) ((Int.dvd_add_left h1).mp hs)
/-- nought at all: each so many times its products -/
theorem van1 {D : Int} {n : Nat} {c : Nat → Int} (h : ∀ x : Nat, D ∣ lsum (List.range n) fun i => c i * FF 0 i (x : Int)) : ∀ i, i < n → D ∣ (fac i : Int) * c i := by
  intro i
  induction i using Nat.strongRecOn with
  | ind i ih =>
    intro hi
    have h1 := dvd_one (D := D) (i := i) hi (fun s hs hne => ?_) (h i)
    · rw [FF_diag, Int.mul_comm] at h1
      exact h1
    · rcases Nat.lt_or_gt_of_ne hne with hlt | hgt
      · obtain ⟨a, ha⟩ := ih s hlt hs
        obtain ⟨b, hb⟩ := fac_dvd i s
        exact ⟨a * b, by rw [hb]; grind⟩
      · rw [FF_zero hgt, Int.mul_zero]
        exact Int.dvd_zero _
theorem van2 {D : Int} {t : List (List Int)} (h : ∀ x y : Nat, D ∣ dot2 (FF 0) t (x : Int) (y : Int)) (i j : Nat) : D ∣ (fac i * fac j : Nat) * co (rowM t i) j := by
  by_cases hi : i < t.length
  · by_cases hj : j < (rowM t i).length
    · have h1 : ∀ y : Nat, D ∣ (fac i : Int) * dot (FF 0) (rowM t i) (y : Int) := fun y => van1 (c := fun i => dot (FF 0) (rowM t i) (y : Int)) (fun x => by
        have := h x y
        unfold dot2 at this
        rw [lsum_congr (t' := fun i => FF 0 i (x : Int) * dot (FF 0) (rowM t i) (y : Int)) fun i _ => Int.mul_comm _ _]
        exact this) i hi
      have h2 := van1 (D := D) (n := (rowM t i).length) (c := fun j => (fac i : Int) * co (rowM t i) j) (fun y => by
        have := h1 y
        unfold dot at this
        rw [← lsum_mul] at this
        rw [lsum_congr (t' := fun j => (fac i : Int) * (co (rowM t i) j * FF 0 j (y : Int))) fun j _ => Int.mul_assoc _ _ _]
        exact this) j hj
      rw [Int.natCast_mul]
      obtain ⟨c, hc⟩ := h2
      exact ⟨c, by rw [← hc]; grind⟩
    · rw [co_out hj, Int.mul_zero]
      exact Int.dvd_zero _
  · rw [row_out hi, co_nil, Int.mul_zero]
    exact Int.dvd_zero _
theorem top_nat (hm : 0 < m) (i j : Nat) : top m i j = ((m.toNat / Nat.gcd m.toNat (fac i * fac j) : Nat) : Int) := by
  unfold top
  have e : Int.gcd m ((fac i * fac j : Nat) : Int) = Nat.gcd m.toNat (fac i * fac j) := by
    show Nat.gcd m.natAbs _ = _
    rw [Int.natAbs_natCast]
    congr 1
    omega
  rw [e, Int.natCast_ediv]
  congr 1
  omega
theorem top_dvd (hm : 0 < m) {i j : Nat} {d : Int} (h : m ∣ (fac i * fac j : Nat) * d) : top m i j ∣ d := by
  rw [top_nat hm]
  have h1 := Int.natAbs_dvd_natAbs.mpr h
  rw [Int.natAbs_mul, Int.natAbs_natCast, show m.natAbs = m.toNat by omega] at h1
  generalize fac i * fac j = F at *
  have hM : 0 < m.toNat := by omega
  generalize m.toNat = M at *
  rw [← Int.natAbs_dvd_natAbs, Int.natAbs_natCast]
  have hg : 0 < Nat.gcd M F := Nat.gcd_pos_of_pos_left _ hM
  refine Nat.Coprime.dvd_of_dvd_mul_left (Nat.coprime_div_gcd_div_gcd hg) ?_
  obtain ⟨c, hc⟩ := h1
  refine ⟨c, ?_⟩
  have e1 : Nat.gcd M F * (M / Nat.gcd M F) = M := Nat.mul_div_cancel' (Nat.gcd_dvd_left M F)
  have e2 : Nat.gcd M F * (F / Nat.gcd M F) = F := Nat.mul_div_cancel' (Nat.gcd_dvd_right M F)
  apply Nat.eq_of_mul_eq_mul_left hg
  rw [← Nat.mul_assoc, ← Nat.mul_assoc, e1, e2, hc]
theorem top_back (hm : 0 < m) (i j : Nat) : m ∣ top m i j * ((fac i * fac j : Nat) : Int) := by
  rw [top_nat hm]
  have e : m = ((m.toNat : Nat) : Int) := by omega
  rw [e, Int.toNat_natCast]
  generalize m.toNat = M
  generalize fac i * fac j = F
  rw [← Int.natCast_mul]
  apply Int.natCast_dvd_natCast.mpr
  refine ⟨F / Nat.gcd M F, ?_⟩
  have e1 : Nat.gcd M F * (M / Nat.gcd M F) = M := Nat.mul_div_cancel' (Nat.gcd_dvd_left M F)
  have e2 : Nat.gcd M F * (F / Nat.gcd M F) = F := Nat.mul_div_cancel' (Nat.gcd_dvd_right M F)
  calc M / Nat.gcd M F * F = M / Nat.gcd M F * (Nat.gcd M F * (F / Nat.gcd M F)) := by rw [e2]
    _ = (Nat.gcd M F * (M / Nat.gcd M F)) * (F / Nat.gcd M F) := by rw [← Nat.mul_assoc, Nat.mul_comm (M / Nat.gcd M F)]
    _ = M * (F / Nat.gcd M F) := by rw [e1]
/-! tables whose entries are alike by their tops -/
theorem dot2_sum {B : Nat → Int → Int} {t : List (List Int)} {n : Nat} (h : Sz n t) {x y : Int} : dot2 B t x y = lsum (List.range n) fun i => B i x * lsum (List.range n) fun j => co (rowM t i) j * B j y := by
  unfold dot2
  obtain ⟨d, e⟩ := Nat.exists_eq_add_of_le h.1
  have e2 : ∀ k, k ≤ d → (lsum (List.range t.length) fun i => B i x * dot B (rowM t i) y) = lsum (List.range (t.length + k)) fun i => B i x * lsum (List.range n) fun j => co (rowM t i) j * B j y := fun k => by
    induction k with
    | zero =>
      intro _
      exact lsum_congr fun i _ => by rw [dot_sum (h.row i)]
    | succ k ih =>
      intro hk
      rw [ih (by omega), show t.length + (k + 1) = (t.length + k) + 1 by omega, lsum_rangeS, row_out (P := t) (k := t.length + k) (by omega)]
      rw [lsum_congr (t := fun j => co [] j * B j y) (t' := fun _ => 0) fun j _ => by rw [co_nil, Int.zero_mul], lsum_zero]
      omega
  rw [e2 d (Nat.le_refl _), ← e]
theorem dot2_alike (hm : 0 < m) {t t' : List (List Int)} (h : ∀ i j, top m i j ∣ co (rowM t i) j - co (rowM t' i) j) (x y : Nat) : m ∣ dot2 (FF 0) t (x : Int) (y : Int) - dot2 (FF 0) t' (x : Int) (y : Int) := by
  have hz : ∀ t : List (List Int), ∃ n, Sz n t := fun t => ⟨max t.length (wide t), Nat.le_max_left _ _, fun r hr => Nat.le_trans (wide_mem hr) (Nat.le_max_right _ _)⟩
  obtain ⟨n1, z1⟩ := hz t
  obtain ⟨n2, z2⟩ := hz t'
  rw [dot2_sum (z1.mono (Nat.le_max_left n1 n2)), dot2_sum (z2.mono (Nat.le_max_right n1 n2)), ← lsum_sub]
  refine dvd_lsum fun i _ => ?_
  rw [← Int.mul_sub, ← lsum_sub, ← lsum_mul]
  refine dvd_lsum fun j _ => ?_
  obtain ⟨a, ha⟩ := h i j
  obtain ⟨b, hb⟩ := fac_dvd x i
  obtain ⟨c, hc⟩ := fac_dvd y j
  obtain ⟨e, he⟩ := top_back hm i j
  refine ⟨e * a * b * c, ?_⟩
  rw [hb, hc]
  rw [Int.natCast_mul] at he
  grind
theorem dot2_same {t t' : List (List Int)} (h : ∀ i j, co (rowM t i) j = co (rowM t' i) j) (x y : Int) : dot2 (FF 0) t x y = dot2 (FF 0) t' x y := by
  have hz : ∀ t : List (List Int), ∃ n, Sz n t := fun t => ⟨max t.length (wide t), Nat.le_max_left _ _, fun r hr => Nat.le_trans (wide_mem hr) (Nat.le_max_right _ _)⟩
  obtain ⟨n1, z1⟩ := hz t
  obtain ⟨n2, z2⟩ := hz t'
  rw [dot2_sum (z1.mono (Nat.le_max_left n1 n2)), dot2_sum (z2.mono (Nat.le_max_right n1 n2))]
  refine lsum_congr fun i _ => ?_
  congr 1
  exact lsum_congr fun j _ => by rw [h]
/-- the table of what one has more than another -/
def difT (t t' : List (List Int)) : List (List Int) := (List.range (max (max t.length (wide t)) (max t'.length (wide t')))).map fun i => (List.range (max (max t.length (wide t)) (max t'.length (wide t')))).map fun j => co (rowM t i) j - co (rowM t' i) j
theorem co_dif {t t' : List (List Int)} (i j : Nat) : co (rowM (difT t t') i) j = co (rowM t i) j - co (rowM t' i) j := by
  unfold difT
  generalize hn : max (max t.length (wide t)) (max t'.length (wide t')) = n
  have big : ∀ (t : List (List Int)), t.length ≤ n → wide t ≤ n → (n ≤ i ∨ n ≤ j) → co (rowM t i) j = 0 := fun t h1 h2 h => by
    by_cases hi : i < t.length
    · have := wide_mem (row_mem hi)
      exact co_out (by omega)
    · rw [row_out hi, co_nil]
  by_cases hi : i < n
  · rw [row_range hi]
    by_cases hj : j < n
    · rw [co_range hj]
    · rw [co_out (by simp; omega), big t (by omega) (by omega) (.inr (by omega)), big t' (by omega) (by omega) (.inr (by omega))]; rfl
  · rw [row_out (by simp; omega), co_nil, big t (by omega) (by omega) (.inl (by omega)), big t' (by omega) (by omega) (.inl (by omega))]; rfl
theorem dot2_dif {t t' : List (List Int)} (x y : Int) : dot2 (FF 0) (difT t t') x y = dot2 (FF 0) t x y - dot2 (FF 0) t' x y := by
  have hz : ∀ t : List (List Int), ∃ n, Sz n t := fun t => ⟨max t.length (wide t), Nat.le_max_left _ _, fun r hr => Nat.le_trans (wide_mem hr) (Nat.le_max_right _ _)⟩
  obtain ⟨n1, z1⟩ := hz t
  obtain ⟨n2, z2⟩ := hz t'
  obtain ⟨n3, z3⟩ := hz (difT t t')
  have h1 : n1 ≤ max n1 (max n2 n3) := by omega
  have h2 : n2 ≤ max n1 (max n2 n3) := by omega
  have h3 : n3 ≤ max n1 (max n2 n3) := by omega
  rw [dot2_sum (z1.mono h1), dot2_sum (z2.mono h2), dot2_sum (z3.mono h3), ← lsum_sub]
  refine lsum_congr fun i _ => ?_
  rw [← Int.mul_sub, ← lsum_sub]
  congr 1
  refine lsum_congr fun j _ => ?_
  rw [co_dif]
  grind
/-- alike everywhere: the entries are alike by their tops -/
theorem ent_alike (hm : 0 < m) {t t' : List (List Int)} (h : ∀ x y : Nat, m ∣ dot2 (FF 0) t (x : Int) (y : Int) - dot2 (FF 0) t' (x : Int) (y : Int)) (i j : Nat) : top m i j ∣ co (rowM t i) j - co (rowM t' i) j := by
  rw [← co_dif]
  refine top_dvd hm (van2 (fun x y => ?_) i j)
  rw [dot2_dif]
  exact h x y
theorem co_modT (hm : 0 < m) {t : List (List Int)} (i j : Nat) : co (rowM (modT m t) i) j = co (rowM t i) j % top m i j := by
  unfold modT
  by_cases hi : i < t.length
  · rw [row_range hi]
    by_cases hj : j < (rowM t i).length
    · rw [co_range hj]
    · rw [co_out (by simp; omega), co_out hj, Int.zero_emod]
  · rw [row_out (by simp; omega), co_nil, row_out hi, co_nil, Int.zero_emod]
/-- the least form is alike everywhere -/
theorem least_at (hm : 0 < m) (A : List (List Int)) (x y : Nat) : m ∣ ev2 (least2M m A) (x : Int) (y : Int) - ev2 A (x : Int) (y : Int) := by
  have h1 := (cg_built (m := m) (t := modT m (parts2M m A))).dvd (x : Int) (y : Int)
  have h2 := (cg_parts (m := m) A).dvd (x : Int) (y : Int)
  have h3 := dot2_alike hm (t := modT m (parts2M m A)) (t' := parts2M m A) (fun i j => by
    rw [co_modT hm]
    have := Int.emod_add_mul_ediv (co (rowM (parts2M m A) i) j) (top m i j)
    exact ⟨-(co (rowM (parts2M m A) i) j / top m i j), by grind⟩) x y
  have h4 := Int.dvd_add (Int.dvd_add h1 h2) h3
  have e : ev2 (builtM m (modT m (parts2M m A))) (x : Int) (y : Int) - dot2 (FF 0) (modT m (parts2M m A)) (x : Int) (y : Int) + (dot2 (FF 0) (parts2M m A) (x : Int) (y : Int) - ev2 A (x : Int) (y : Int)) + (dot2 (FF 0) (modT m (parts2M m A)) (x : Int) (y : Int) - dot2 (FF 0) (parts2M m A) (x : Int) (y : Int)) =
      ev2 (least2M m A) (x : Int) (y : Int) - ev2 A (x : Int) (y : Int) := by
    show _ = ev2 (builtM m (modT m (parts2M m A))) (x : Int) (y : Int) - ev2 A (x : Int) (y : Int)
    omega
  rw [e] at h4
  exact h4
/-- what is told by entries below their tops is its own least form -/
theorem least_own (hm : 0 < m) {A t : List (List Int)} (hA : Cn2 m A) (ht : ∀ i j, co (rowM t i) j % top m i j = co (rowM t i) j) (h : Cg m (ev2 A) (dot2 (FF 0) t)) : least2M m A = A := by
  have h1 := ent_alike hm (t := parts2M m A) (t' := t) fun x y => ((cg_parts A).trans h).dvd _ _
  refine cg_eq hm (cn_built hm) hA (cg_built.trans (Cg.trans (Cg.of fun x y => ?_) h.symm))
  refine dot2_same (fun i j => ?_) x y
  have h2 := Int.emod_eq_emod_iff_emod_sub_eq_zero.mpr (Int.emod_eq_zero_of_dvd (h1 i j))
  rw [co_modT hm, h2, ht i j]
theorem least_least (hm : 0 < m) (B : List (List Int)) : least2M m (least2M m B) = least2M m B := by
  refine least_own hm (cn_built hm) (t := modT m (parts2M m B)) (fun i j => ?_) cg_built
  rw [co_modT hm, Int.emod_emod_of_dvd _ (Int.dvd_refl _)]
theorem ev_oX {x y : Int} : ev2 oX x y = x := by simp [oX, ev2, ev1]
theorem ev_oY {x y : Int} : ev2 oY x y = y := by simp [oY, ev2, ev1]
theorem top_10 : top m 1 0 = m ∧ top m 0 1 = m := by
  constructor <;> (unfold top; simp [fac])
theorem cn_oX (hm : 1 < m) : Cn2 m oX := by
  refine ⟨fun r hr => ?_, rfl⟩
  unfold oX at hr
  simp only [List.mem_cons, List.not_mem_nil, or_false] at hr
  rcases hr with rfl | rfl
  · exact cn_nil
  · exact ⟨fun c hc => by rw [List.mem_singleton.mp hc]; omega, rfl⟩
theorem cn_oY (hm : 1 < m) : Cn2 m oY := by
  refine ⟨fun r hr => ?_, rfl⟩
  unfold oY at hr
  rw [List.mem_singleton.mp hr]
  refine ⟨fun c hc => ?_, rfl⟩
  simp only [List.mem_cons, List.not_mem_nil, or_false] at hc
  rcases hc with rfl | rfl <;> omega
theorem least_oX (hm : 1 < m) : least2M m oX = oX := by
  refine least_own (by omega) (cn_oX hm) (t := [[], [1]]) (fun i j => ?_) (Cg.of fun x y => ?_)
  · match i, j with
    | 0, j => rw [show rowM [[], [1]] 0 = [] from rfl, co_nil, Int.zero_emod]
    | 1, 0 => rw [top_10.1]; exact Int.emod_eq_of_lt (by decide) hm
    | 1, j + 1 => rw [show rowM [[], [1]] 1 = [1] from rfl, co_consS, co_nil, Int.zero_emod]
    | i + 2, j => rw [show rowM [[], [(1 : Int)]] (i + 2) = [] from row_out (by simp), co_nil, Int.zero_emod]
  · rw [ev_oX]
    simp [dot2, dot, lsum, List.range_succ, co, rowM, FF]
theorem least_oY (hm : 1 < m) : least2M m oY = oY := by
  refine least_own (by omega) (cn_oY hm) (t := [[0, 1]]) (fun i j => ?_) (Cg.of fun x y => ?_)
  · match i, j with
    | 0, 0 => rw [show co (rowM [[0, 1]] 0) 0 = 0 from rfl, Int.zero_emod]
    | 0, 1 => rw [top_10.2]; exact Int.emod_eq_of_lt (by decide) hm
    | 0, j + 2 => rw [show rowM [[0, 1]] 0 = [0, 1] from rfl, co_consS, co_consS, co_nil, Int.zero_emod]
    | i + 1, j => rw [show rowM [[0, (1 : Int)]] (i + 1) = [] from row_out (by simp), co_nil, Int.zero_emod]
  · rw [ev_oY]
    simp [dot2, dot, lsum, List.range_succ, co, rowM, FF]
end
end Nf

set_option Elab.async false
set_option linter.all false
/-! Plain mathematics, fifth part: sizes, values, nets; the facts that the law hangs on. -/
namespace Nf
open Mz
section
variable {m : Int}
/-! sizes -/
theorem fac_24 : ∀ {i : Nat}, 4 ≤ i → 24 ∣ fac i
  | i + 1, h => by
    by_cases e : i = 3
    · subst e; decide
    · exact Nat.dvd_trans (fac_24 (i := i) (by omega)) ⟨i + 1, by rw [show fac (i + 1) = (i + 1) * fac i from rfl, Nat.mul_comm]⟩
theorem top_one (h : MOk m) {i j : Nat} (hij : 4 ≤ i ∨ 4 ≤ j) : top m i j = 1 := by
  have hb := h.bd
  rw [top_nat (by omega)]
  have hd : m.toNat ∣ 24 := by
    unfold MOk at h
    simp only [List.mem_cons, List.not_mem_nil, or_false] at h
    rcases h with rfl | rfl | rfl | rfl | rfl | rfl | rfl <;> decide
  have h2 : m.toNat ∣ fac i * fac j := by
    rcases hij with h | h
    · exact Nat.dvd_trans hd (Nat.dvd_trans (fac_24 h) (Nat.dvd_mul_right _ _))
    · exact Nat.dvd_trans hd (Nat.dvd_trans (fac_24 h) (Nat.dvd_mul_left _ _))
  rw [Nat.gcd_eq_left h2, Nat.div_self (by omega)]; rfl
theorem timesM_le {f g : List Int} {a : Nat} (hf : f.length ≤ a) (hg : g.length ≤ 1) (ha : 1 ≤ a) : (timesM m f g).length ≤ a := by
  by_cases h1 : 0 < f.length
  · by_cases h2 : 0 < g.length
    · have := timesM_len2 (m := m) h1 h2
      omega
    · have := timesM_len (m := m) (f := f) (g := g)
      omega
  · have := timesM_len (m := m) (f := f) (g := g)
    omega
theorem inner_len {row : List Int} (h : ∀ j, 4 ≤ j → co row j = 0) : (innerM m row).length ≤ 4 := by
  unfold innerM
  refine foldl_inv (fun inner : List Int => inner.length ≤ 4) (by simp) fun inner q hq hl => ?_
  by_cases hz : q.2 % m = 0
  · rw [if_pos hz]; exact hl
  · rw [if_neg hz]
    have h1 := (en_mem hq).2.1
    have h2 : q.1 < 4 := by
      apply Classical.byContradiction
      intro z
      have h3 := h q.1 (by omega)
      unfold co at h3
      rw [List.getD_eq_getElem?_getD, h1] at h3
      have h4 : q.2 = 0 := h3
      rw [h4, Int.zero_emod] at hz
      exact hz rfl
    have hn := nb_len (m := m) q.1
    exact Nat.le_trans plusM_len (Nat.max_le.mpr ⟨hl, timesM_le (by omega) pol_len (by decide)⟩)
theorem inner_nil {row : List Int} (h : ∀ j, co row j = 0) : innerM m row = [] := by
  unfold innerM
  refine foldl_inv (fun inner : List Int => inner = []) rfl fun inner q hq hl => ?_
  have h1 := (en_mem hq).2.1
  have h3 := h q.1
  unfold co at h3
  rw [List.getD_eq_getElem?_getD, h1] at h3
  have h4 : q.2 = 0 := h3
  rw [h4, Int.zero_emod, if_pos rfl]
  exact hl
theorem rowM_set {A : List (List Int)} {k i : Nat} {r : List Int} : (rowM (A.set k r) i) = if k = i ∧ i < A.length then r else rowM A i := by
  unfold rowM
  rw [List.getD_eq_getElem?_getD, List.getD_eq_getElem?_getD, List.getElem?_set]
  by_cases h : k = i
  · subst h
    by_cases h2 : k < A.length
    · rw [if_pos rfl, if_pos h2, if_pos ⟨rfl, h2⟩]; rfl
    · rw [if_pos rfl, if_neg h2, if_neg (fun z => h2 z.2), List.getElem?_eq_none (by omega)]
  · rw [if_neg h, if_neg (fun z => h z.1)]
theorem trm_small {l : List (List Int)} {b : Nat} : ∀ (n : Nat) (l : List (List Int)), l.length = n → (∀ k, b ≤ k → rowM l k = []) → (trm List.isEmpty l).length ≤ b
  | 0, l, h, _ => Nat.le_trans trm_len (by omega)
  | n + 1, l, h, hk => by
    by_cases hb : n + 1 ≤ b
    · exact Nat.le_trans trm_len (by omega)
    · obtain ⟨i, x, rfl⟩ := snoc_of (l := l) (fun z => by rw [z] at h; cases h)
      have hi : i.length = n := by simpa using h
      have hx : x = [] := by
        have := hk n (by omega)
        unfold rowM at this
        rw [List.getD_eq_getElem?_getD, List.getElem?_append_right (by omega), hi, Nat.sub_self] at this
        exact this
      rw [trm_snoc, if_pos (by rw [hx]; rfl)]
      refine trm_small (l := l) n i hi fun k hk' => ?_
      by_cases hkn : k < n
      · have := hk k hk'
        unfold rowM at this ⊢
        rw [List.getD_eq_getElem?_getD, List.getElem?_append_left (by omega)] at this
        rw [List.getD_eq_getElem?_getD]
        exact this
      · exact row_out (by omega)
theorem built_small {t : List (List Int)} (h : ∀ i j, (4 ≤ i ∨ 4 ≤ j) → co (rowM t i) j = 0) : Sz 4 (builtM m t) := by
  have key : ∀ k, (rowM ((en 0 t).foldl (fun acc q => if innerM m q.2 = [] then acc else spread m (innerM m q.2) (nb m q.1) acc) (List.replicate t.length [])) k).length ≤ 4 ∧ (4 ≤ k → rowM ((en 0 t).foldl (fun acc q => if innerM m q.2 = [] then acc else spread m (innerM m q.2) (nb m q.1) acc) (List.replicate t.length [])) k = []) := by
    refine foldl_inv (fun acc : List (List Int) => ∀ k, (rowM acc k).length ≤ 4 ∧ (4 ≤ k → rowM acc k = [])) (fun k => ?_) fun acc q hq hI => ?_
    · have : rowM (List.replicate t.length []) k = ([] : List Int) := by
        unfold rowM
        rw [List.getD_eq_getElem?_getD, List.getElem?_replicate]
        split <;> rfl
      rw [this]
      exact ⟨by simp, fun _ => rfl⟩
    · by_cases hz : innerM m q.2 = []
      · rw [if_pos hz]; exact hI
      · rw [if_neg hz]
        have h1 := (en_mem hq)
        have hrow : q.2 = rowM t q.1 := by
          unfold rowM
          rw [List.getD_eq_getElem?_getD, h1.2.1]; rfl
        have h2 : q.1 < 4 := by
          apply Classical.byContradiction
          intro z
          exact hz (inner_nil fun j => by rw [hrow]; exact h q.1 j (.inl (by omega)))
        have h3 : (innerM m q.2).length ≤ 4 := inner_len fun j hj => by rw [hrow]; exact h q.1 j (.inr hj)
        have hn := nb_len (m := m) q.1
        unfold spread
        refine foldl_inv (fun acc : List (List Int) => ∀ k, (rowM acc k).length ≤ 4 ∧ (4 ≤ k → rowM acc k = [])) hI fun acc r hr hI2 k => ?_
        have h4 := (en_mem hr).1
        rw [rowM_set]
        by_cases hk : r.1 = k ∧ k < acc.length
        · rw [if_pos hk]
          refine ⟨Nat.le_trans plusM_len (Nat.max_le.mpr ⟨(hI2 _).1, timesM_le h3 pol_len (by decide)⟩), fun z => ?_⟩
          omega
        · rw [if_neg hk]; exact hI2 k
  unfold builtM
  generalize (en 0 t).foldl (fun acc q => if innerM m q.2 = [] then acc else spread m (innerM m q.2) (nb m q.1) acc) (List.replicate t.length []) = A at key
  refine ⟨trm_small (l := []) _ (A.map (pol m)) rfl fun k hk => ?_, fun r hr => ?_⟩
  · by_cases hka : k < A.length
    · rw [row_map1 hka, (key k).2 hk]; rfl
    · exact row_out (by simp; omega)
  · obtain ⟨x, hx, rfl⟩ := List.mem_map.mp (trm_mem hr)
    obtain ⟨k, hk, rfl⟩ := List.getElem_of_mem hx
    have := (key k).1
    unfold rowM at this
    rw [List.getD_eq_getElem?_getD, List.getElem?_eq_getElem hk] at this
    exact Nat.le_trans pol_len this
theorem modT_small (h : MOk m) {t : List (List Int)} (i j : Nat) (hij : 4 ≤ i ∨ 4 ≤ j) : co (rowM (modT m t) i) j = 0 := by
  rw [co_modT (by have := h.bd; omega), top_one h hij, Int.emod_one]
theorem sm_of (h : MOk m) : Sm m := fun A => built_small (modT_small h)
theorem smL_of (h : MOk m) : SmL m := fun A => by
  unfold lleastM
  rw [sum_built (by have := h.bd; omega)]
  exact built_small (modT_small h)
/-! values -/
theorem val_ev (f : List Int) (x : Int) : val m f x = ev1 f x % m := by
  unfold val
  rw [List.foldl_reverse]
  induction f with
  | nil => simp [ev1]
  | cons c f ih =>
    rw [List.foldr_cons, ih, ev1_cons]
    rw [Int.add_emod, Int.mul_emod, Int.emod_emod_of_dvd _ (Int.dvd_refl m), ← Int.mul_emod, ← Int.add_emod, Int.mul_comm, Int.add_comm]
theorem atRow_ev {y : Int} : ∀ (row : List Int) (p : Int × Int), m ∣ (atRow m row y p).1 - (p.1 + p.2 * ev1 row y)
  | [], p => ⟨0, by simp [atRow, ev1]⟩
  | c :: row, p => by
    obtain ⟨a, ha⟩ := atRow_ev (y := y) row (p.1 + c * p.2, p.2 * y % m)
    have := Int.emod_add_mul_ediv (p.2 * y) m
    refine ⟨a - (p.2 * y / m) * ev1 row y, ?_⟩
    show (atRow m row y (p.1 + c * p.2, p.2 * y % m)).1 - _ = _
    rw [ev1_cons]
    dsimp only at ha
    grind
theorem at_ev {x y : Int} : ∀ (P : List (List Int)) (p : Int × Int), m ∣ (P.foldl (fun p row => ((atRow m row y p).1, p.2 * x % m)) p).1 - (p.1 + p.2 * ev2 P x y)
  | [], p => ⟨0, by simp [ev2]⟩
  | r :: P, p => by
    obtain ⟨a, ha⟩ := at_ev (x := x) (y := y) P ((atRow m r y p).1, p.2 * x % m)
    obtain ⟨b, hb⟩ := atRow_ev (m := m) (y := y) r p
    have := Int.emod_add_mul_ediv (p.2 * x) m
    refine ⟨a + b - (p.2 * x / m) * ev2 P x y, ?_⟩
    rw [List.foldl_cons, ev2_cons]
    dsimp only at ha
    grind
theorem dvd_mod {a b : Int} (h : m ∣ a - b) : a % m = b % m := Int.emod_eq_emod_iff_emod_sub_eq_zero.mpr (Int.emod_eq_zero_of_dvd h)
theorem mod_dvd {a b : Int} (h : a % m = b % m) : m ∣ a - b := Int.dvd_of_emod_eq_zero (Int.emod_eq_emod_iff_emod_sub_eq_zero.mp h)
theorem atM_ev (P : List (List Int)) (x y : Int) : atM m P x y = ev2 P x y % m := by
  unfold atM
  refine dvd_mod ?_
  have := at_ev (m := m) (x := x) (y := y) P (0, 1)
  dsimp only at this
  rw [Int.zero_add, Int.one_mul] at this
  exact this
theorem dvd_e1 {y z : Int} (h : m ∣ y - z) : ∀ (f : List Int), m ∣ ev1 f y - ev1 f z
  | [] => ⟨0, by simp [ev1]⟩
  | c :: f => by
    obtain ⟨a, ha⟩ := h
    obtain ⟨b, hb⟩ := dvd_e1 ⟨a, ha⟩ f
    refine ⟨a * ev1 f y + z * b, ?_⟩
    rw [ev1_cons, ev1_cons]
    grind
theorem dvd_e2 {x w y z : Int} (h1 : m ∣ x - w) (h2 : m ∣ y - z) : ∀ (P : List (List Int)), m ∣ ev2 P x y - ev2 P w z
  | [] => ⟨0, by simp [ev2]⟩
  | r :: P => by
    obtain ⟨a, ha⟩ := h1
    obtain ⟨b, hb⟩ := dvd_e2 ⟨a, ha⟩ h2 P
    obtain ⟨c, hc⟩ := dvd_e1 h2 r
    refine ⟨c + (a * ev2 P x y + w * b), ?_⟩
    rw [ev2_cons, ev2_cons]
    grind
/-! nets -/
def stp (m : Int) (s : List Int × Int) (p : Int × Int) : Int × Int := (p.2, (p.1 + val m s.1 (p.2 + s.2)) % m)
def ust (m : Int) (s : List Int × Int) (p : Int × Int) : Int × Int := ((p.2 - val m s.1 (p.1 + s.2)) % m, p.1)
def InR (m : Int) (p : Int × Int) : Prop := 0 ≤ p.1 ∧ p.1 < m ∧ 0 ≤ p.2 ∧ p.2 < m
theorem netM_cons {s : List Int × Int} {r : Net} {x y : Int} : netM m (s :: r) x y = netM m r (stp m s (x, y)).1 (stp m s (x, y)).2 := rfl
theorem unnet_cons {s : List Int × Int} {r : Net} {x y : Int} : unnetM m (s :: r) x y = ust m s (unnetM m r x y) := by
  unfold unnetM
  rw [List.reverse_cons, List.foldl_append]; rfl
theorem mod_in (hm : 0 < m) (a : Int) : 0 ≤ a % m ∧ a % m < m := ⟨Int.emod_nonneg _ (by omega), Int.emod_lt_of_pos _ hm⟩
theorem stp_in (hm : 0 < m) {s : List Int × Int} {p : Int × Int} (h : InR m p) : InR m (stp m s p) := ⟨h.2.2.1, h.2.2.2, (mod_in hm _).1, (mod_in hm _).2⟩
theorem ust_in (hm : 0 < m) {s : List Int × Int} {p : Int × Int} (h : InR m p) : InR m (ust m s p) := ⟨(mod_in hm _).1, (mod_in hm _).2, h.1, h.2.1⟩
theorem ust_stp (hm : 0 < m) {s : List Int × Int} {p : Int × Int} (h : InR m p) : ust m s (stp m s p) = p := by
  obtain ⟨x, y⟩ := p
  have e : ((x + val m s.1 (y + s.2)) % m - val m s.1 (y + s.2)) % m = x := by
    rw [Int.emod_sub_emod]
    rw [show x + val m s.1 (y + s.2) - val m s.1 (y + s.2) = x by omega, Int.emod_eq_of_lt h.1 h.2.1]
  show (((x + val m s.1 (y + s.2)) % m - val m s.1 (y + s.2)) % m, y) = (x, y)
  rw [e]
theorem stp_ust (hm : 0 < m) {s : List Int × Int} {p : Int × Int} (h : InR m p) : stp m s (ust m s p) = p := by
  obtain ⟨x, y⟩ := p
  have e : ((y - val m s.1 (x + s.2)) % m + val m s.1 (x + s.2)) % m = y := by
    rw [Int.emod_add_emod]
    rw [show y - val m s.1 (x + s.2) + val m s.1 (x + s.2) = y by omega, Int.emod_eq_of_lt h.2.2.1 h.2.2.2]
  show (x, ((y - val m s.1 (x + s.2)) % m + val m s.1 (x + s.2)) % m) = (x, y)
  rw [e]
theorem net_in (hm : 0 < m) : ∀ (net : Net) {x y : Int}, InR m (x, y) → InR m (netM m net x y)
  | [], x, y, h => h
  | s :: r, x, y, h => by rw [netM_cons]; exact net_in hm r (stp_in hm h)
theorem unnet_in (hm : 0 < m) : ∀ (net : Net) {x y : Int}, InR m (x, y) → InR m (unnetM m net x y)
  | [], x, y, h => h
  | s :: r, x, y, h => by rw [unnet_cons]; exact ust_in hm (unnet_in hm r h)
theorem unnet_net (hm : 0 < m) : ∀ (net : Net) {x y : Int}, InR m (x, y) → unnetM m net (netM m net x y).1 (netM m net x y).2 = (x, y)
  | [], x, y, h => rfl
  | s :: r, x, y, h => by
    have ih := unnet_net hm r (x := (stp m s (x, y)).1) (y := (stp m s (x, y)).2) (stp_in hm h)
    rw [unnet_cons, netM_cons, ih]
    exact ust_stp hm h
theorem net_unnet (hm : 0 < m) : ∀ (net : Net) {x y : Int}, InR m (x, y) → netM m net (unnetM m net x y).1 (unnetM m net x y).2 = (x, y)
  | [], x, y, h => rfl
  | s :: r, x, y, h => by
    rw [unnet_cons, netM_cons]
    have e := stp_ust hm (s := s) (unnet_in hm r h)
    rw [show (ust m s (unnetM m r x y)).1 = (ust m s (unnetM m r x y)).1 from rfl]
    show netM m r (stp m s ((ust m s (unnetM m r x y)).1, (ust m s (unnetM m r x y)).2)).1 (stp m s ((ust m s (unnetM m r x y)).1, (ust m s (unnetM m r x y)).2)).2 = (x, y)
    rw [show ((ust m s (unnetM m r x y)).1, (ust m s (unnetM m r x y)).2) = ust m s (unnetM m r x y) from rfl, e]
    exact net_unnet hm r h
/-- what a step makes, at whole numbers from 0 on -/
theorem next_at (hm : 0 < m) {A R : List (List Int)} {s : List Int × Int} {x y : Nat} {p q : Int} (h1 : m ∣ ev2 A (x : Int) (y : Int) - p) (h2 : m ∣ ev2 R (x : Int) (y : Int) - q) : m ∣ ev2 (nextM m A R s) (x : Int) (y : Int) - (stp m s (p, q)).2 := by
  have a := least_at hm (plus2M m A (wkM m s R)) x y
  have b := (cg_plus2 (m := m) (P := A) (Q := wkM m s R)).dvd (x : Int) (y : Int)
  have c := (cg_wk (m := m) (s := s) (R := R)).dvd (x : Int) (y : Int)
  have d := dvd_e1 (m := m) (y := ev2 R (x : Int) (y : Int) + s.2) (z := q + s.2) (by rw [show ev2 R (x : Int) (y : Int) + s.2 - (q + s.2) = ev2 R (x : Int) (y : Int) - q by omega]; exact h2) s.1
  have e : m ∣ p + ev1 s.1 (q + s.2) - (stp m s (p, q)).2 := by
    show m ∣ _ - (p + val m s.1 (q + s.2)) % m
    rw [val_ev]
    refine mod_dvd ?_
    rw [Int.emod_emod_of_dvd _ (Int.dvd_refl m), Int.add_emod_emod]
  have t := Int.dvd_add (Int.dvd_add (Int.dvd_add (Int.dvd_add (Int.dvd_add a b) c) d) h1) e
  have e2 : ev2 (least2M m (plus2M m A (wkM m s R))) (x : Int) (y : Int) - ev2 (plus2M m A (wkM m s R)) (x : Int) (y : Int) + (ev2 (plus2M m A (wkM m s R)) (x : Int) (y : Int) - (ev2 A (x : Int) (y : Int) + ev2 (wkM m s R) (x : Int) (y : Int))) +
      (ev2 (wkM m s R) (x : Int) (y : Int) - ev1 s.1 (ev2 R (x : Int) (y : Int) + s.2)) + (ev1 s.1 (ev2 R (x : Int) (y : Int) + s.2) - ev1 s.1 (q + s.2)) + (ev2 A (x : Int) (y : Int) - p) + (p + ev1 s.1 (q + s.2) - (stp m s (p, q)).2) =
      ev2 (nextM m A R s) (x : Int) (y : Int) - (stp m s (p, q)).2 := by
    unfold nextM
    omega
  rw [← e2]
  exact t
theorem netW_at (hm : 0 < m) {x y : Nat} : ∀ (net : Net) {A R : List (List Int)} {p q : Int}, m ∣ ev2 A (x : Int) (y : Int) - p → m ∣ ev2 R (x : Int) (y : Int) - q →
    m ∣ ev2 (netW m A R net).1 (x : Int) (y : Int) - (netM m net p q).1 ∧ m ∣ ev2 (netW m A R net).2 (x : Int) (y : Int) - (netM m net p q).2
  | [], A, R, p, q, h1, h2 => ⟨h1, h2⟩
  | s :: r, A, R, p, q, h1, h2 => by
    rw [netW_cons, netM_cons]
    exact netW_at hm r h2 (next_at hm h1 h2)
/-- .. and back -/
theorem back_at (hm : 0 < m) {U V : List (List Int)} {s : List Int × Int} {x y : Nat} {a b : Int} (h1 : m ∣ ev2 U (x : Int) (y : Int) - a) (h2 : m ∣ ev2 V (x : Int) (y : Int) - b) : m ∣ ev2 (least2M m (less2M m V (wkM m s U))) (x : Int) (y : Int) - (ust m s (a, b)).1 := by
  have t1 := least_at hm (less2M m V (wkM m s U)) x y
  have t2 := (cg_less2 (m := m) (P := V) (Q := wkM m s U)).dvd (x : Int) (y : Int)
  have t3 := (cg_wk (m := m) (s := s) (R := U)).dvd (x : Int) (y : Int)
  have t4 := dvd_e1 (m := m) (y := ev2 U (x : Int) (y : Int) + s.2) (z := a + s.2) (by rw [show ev2 U (x : Int) (y : Int) + s.2 - (a + s.2) = ev2 U (x : Int) (y : Int) - a by omega]; exact h1) s.1
  have t5 : m ∣ b - ev1 s.1 (a + s.2) - (ust m s (a, b)).1 := by
    show m ∣ _ - (b - val m s.1 (a + s.2)) % m
    rw [val_ev]
    refine mod_dvd ?_
    rw [Int.emod_emod_of_dvd _ (Int.dvd_refl m), Int.sub_emod_emod]
  have t := Int.dvd_add (Int.dvd_add (Int.dvd_sub (Int.dvd_sub (Int.dvd_add t1 t2) t3) t4) h2) t5
  have e : ev2 (least2M m (less2M m V (wkM m s U))) (x : Int) (y : Int) - ev2 (less2M m V (wkM m s U)) (x : Int) (y : Int) + (ev2 (less2M m V (wkM m s U)) (x : Int) (y : Int) - (ev2 V (x : Int) (y : Int) - ev2 (wkM m s U) (x : Int) (y : Int))) -
      (ev2 (wkM m s U) (x : Int) (y : Int) - ev1 s.1 (ev2 U (x : Int) (y : Int) + s.2)) - (ev1 s.1 (ev2 U (x : Int) (y : Int) + s.2) - ev1 s.1 (a + s.2)) + (ev2 V (x : Int) (y : Int) - b) + (b - ev1 s.1 (a + s.2) - (ust m s (a, b)).1) =
      ev2 (least2M m (less2M m V (wkM m s U))) (x : Int) (y : Int) - (ust m s (a, b)).1 := by omega
  rw [← e]
  exact t
theorem netUV_at (hm : 0 < m) {x y : Nat} : ∀ (l : Net) {U V : List (List Int)} {a b : Int}, m ∣ ev2 U (x : Int) (y : Int) - a → m ∣ ev2 V (x : Int) (y : Int) - b →
    m ∣ ev2 (l.foldl (fun p s => (least2M m (less2M m p.2 (wkM m s p.1)), p.1)) (U, V)).1 (x : Int) (y : Int) - (l.foldl (fun p s => ust m s p) (a, b)).1 ∧
    m ∣ ev2 (l.foldl (fun p s => (least2M m (less2M m p.2 (wkM m s p.1)), p.1)) (U, V)).2 (x : Int) (y : Int) - (l.foldl (fun p s => ust m s p) (a, b)).2
  | [], U, V, a, b, h1, h2 => ⟨h1, h2⟩
  | s :: l, U, V, a, b, h1, h2 => by
    rw [List.foldl_cons, List.foldl_cons]
    exact netUV_at hm l (back_at hm h1 h2) h1
/-! canonical, least -/
def Lst (m : Int) (A : List (List Int)) : Prop := Cn2 m A ∧ least2M m A = A
theorem Lst.red {A : List (List Int)} (h : Lst m A) : RedR m A := fun r hr => (h.1.1 r hr).1
theorem lst_least (hm : 0 < m) (A : List (List Int)) : Lst m (least2M m A) := ⟨cn_built hm, least_least hm A⟩
theorem lst_W (hm : 0 < m) : ∀ (net : Net) {A R : List (List Int)}, Lst m A → Lst m R → Lst m (netW m A R net).1 ∧ Lst m (netW m A R net).2
  | [], A, R, h1, h2 => ⟨h1, h2⟩
  | s :: r, A, R, h1, h2 => by rw [netW_cons]; exact lst_W hm r h2 (lst_least hm _)
theorem lst_UV (hm : 0 < m) : ∀ (l : Net) {p : List (List Int) × List (List Int)}, Lst m p.1 → Lst m p.2 → Lst m (l.foldl (fun p s => (least2M m (less2M m p.2 (wkM m s p.1)), p.1)) p).1 ∧ Lst m (l.foldl (fun p s => (least2M m (less2M m p.2 (wkM m s p.1)), p.1)) p).2
  | [], p, h1, h2 => ⟨h1, h2⟩
  | s :: l, (U, V), h1, h2 => by
    rw [List.foldl_cons]
    have e := lst_least hm (less2M m V (wkM m s U))
    dsimp only
    generalize least2M m (less2M m V (wkM m s U)) = X at e ⊢
    exact lst_UV hm l (p := (X, U)) e h1
theorem both_eq (hm : 0 < m) : ∀ (net : Net) {A R : List (List Int)}, Cn2 m A → Cn2 m R → bothM m A R net = netW m A R net
  | [], A, R, _, _ => rfl
  | s :: r, A, R, h1, h2 => by
    rw [bothM_cons, netW_cons, wide_eq hm h1, lleast_eq hm (A := plus2M m A (wkM m s R)) (red_pol2 hm)]
    exact both_eq hm r h2 (cn_built hm)
/-! small ones -/
theorem sz4_W (h : Sm m) : ∀ (net : Net) {A R : List (List Int)}, Sz 4 A → Sz 4 R → Sz 4 (netW m A R net).1 ∧ Sz 4 (netW m A R net).2
  | [], A, R, h1, h2 => ⟨h1, h2⟩
  | s :: r, A, R, h1, h2 => by rw [netW_cons]; exact sz4_W h r h2 (h _)
theorem sz4_UV (h : Sm m) : ∀ (l : Net) {p : List (List Int) × List (List Int)}, Sz 4 p.1 → Sz 4 p.2 → Sz 4 (l.foldl (fun p s => (least2M m (less2M m p.2 (wkM m s p.1)), p.1)) p).1 ∧ Sz 4 (l.foldl (fun p s => (least2M m (less2M m p.2 (wkM m s p.1)), p.1)) p).2
  | [], p, h1, h2 => ⟨h1, h2⟩
  | s :: l, (U, V), h1, h2 => by
    rw [List.foldl_cons]
    have e := h (less2M m V (wkM m s U))
    dsimp only
    generalize least2M m (less2M m V (wkM m s U)) = X at e ⊢
    exact sz4_UV h l (p := (X, U)) e h1
/-! null papers -/
def quoT (m : Int) (k : Nat) (t : List (List Int)) : List (List Int) := (en k t).map fun q => (en 0 q.2).map fun r => r.2 / top m q.1 r.1
theorem quoT_cons {k : Nat} {row : List Int} {t : List (List Int)} : quoT m k (row :: t) = ((en 0 row).map fun r => r.2 / top m k r.1) :: quoT m (k + 1) t := rfl
theorem divT_some : ∀ (t : List (List Int)) (k : Nat), (∀ i j, top m (k + i) j ∣ co (rowM t i) j) → divT m k t = some (quoT m k t)
  | [], k, _ => rfl
  | row :: t, k, h => by
    have h1 : divR m k row = some ((en 0 row).map fun r => r.2 / top m k r.1) := by
      unfold divR
      rw [if_neg]
      intro z
      obtain ⟨r, hr, e⟩ := List.any_eq_true.mp z
      have h2 := (en_mem hr).2.1
      have h3 := h 0 r.1
      rw [Nat.add_zero, row_cons0] at h3
      unfold co at h3
      rw [List.getD_eq_getElem?_getD, h2] at h3
      have h4 : r.2 % top m k r.1 = 0 := Int.emod_eq_zero_of_dvd h3
      rw [h4] at e
      simp at e
    have ih := divT_some t (k + 1) fun i j => by
      have := h (i + 1) j
      rw [row_consS, show k + (i + 1) = k + 1 + i by omega] at this
      exact this
    unfold divT
    rw [h1, ih]
    rfl
theorem tops_row {i : Nat} {row : List Int} (hd : ∀ j, top m i j ∣ co row j) : topsR m i ((en 0 row).map fun r => r.2 / top m i r.1) = row := by
  have key : ∀ (l : List Int) (k : Nat), (∀ j, top m i (k + j) ∣ co l j) → (en k ((en k l).map fun r => r.2 / top m i r.1)).map (fun r => r.2 * top m i r.1) = l := fun l => by
    induction l with
    | nil => intro k _; rfl
    | cons c l ih =>
      intro k h
      have h0 := h 0
      rw [Nat.add_zero, co_cons0] at h0
      show (c / top m i k * top m i k) :: (en (k + 1) ((en (k + 1) l).map fun r => r.2 / top m i r.1)).map (fun r => r.2 * top m i r.1) = c :: l
      rw [Int.ediv_mul_cancel h0, ih (k + 1) fun j => by
        have := h (j + 1)
        rw [co_consS, show k + (j + 1) = k + 1 + j by omega] at this
        exact this]
  exact key row 0 fun j => by rw [Nat.zero_add]; exact hd j
theorem tops_quo : ∀ (t : List (List Int)) (k : Nat), (∀ i j, top m (k + i) j ∣ co (rowM t i) j) → (en k (quoT m k t)).map (fun q => topsR m q.1 q.2) = t
  | [], k, _ => rfl
  | row :: t, k, h => by
    rw [quoT_cons]
    show topsR m k ((en 0 row).map fun r => r.2 / top m k r.1) :: (en (k + 1) (quoT m (k + 1) t)).map (fun q => topsR m q.1 q.2) = row :: t
    rw [tops_row fun j => by have := h 0 j; rw [Nat.add_zero, row_cons0] at this; exact this, tops_quo t (k + 1) fun i j => by
      have := h (i + 1) j
      rw [row_consS, show k + (i + 1) = k + 1 + i by omega] at this
      exact this]
theorem quo_mem {t : List (List Int)} {k : Nat} {r : List Int} (h : r ∈ quoT m k t) : ∃ i row, row ∈ t ∧ r = (en 0 row).map fun z => z.2 / top m i z.1 := by
  obtain ⟨q, hq, rfl⟩ := List.mem_map.mp h
  obtain ⟨_, h2⟩ := en_at (i := q.1) (x := q.2) hq
  exact ⟨q.1, q.2, List.mem_of_getElem? h2, rfl⟩
/-- what is nought everywhere has its paper -/
theorem null_of (hm : 0 < m) {D : List (List Int)} (hD : Cn2 m D) {n : Nat} (hz : Sz n D) (h : ∀ x y : Nat, m ∣ ev2 D (x : Int) (y : Int)) : ∃ a, nullM m D = some a ∧ RedR m a ∧ Sz n a ∧ builtM m (topsM m a) = D := by
  have hd : ∀ i j, top m (0 + i) j ∣ co (rowM (parts2M m D) i) j := fun i j => by
    rw [Nat.zero_add]
    refine top_dvd hm (van2 (fun x y => ?_) i j)
    have h1 := (cg_parts (m := m) D).dvd (x : Int) (y : Int)
    have h2 := Int.dvd_add h1 (h x y)
    rw [Int.sub_add_cancel] at h2
    exact h2
  have hr := red_tab hm (A := D)
  have hz2 : Sz n (parts2M m D) := sz_tabT hz
  refine ⟨quoT m 0 (parts2M m D), divT_some _ 0 hd, fun r h1 => ?_, ⟨?_, fun r h1 => ?_⟩, ?_⟩
  · obtain ⟨i, row, h2, rfl⟩ := quo_mem h1
    intro c hc
    obtain ⟨z, hz3, rfl⟩ := List.mem_map.mp hc
    have h3 := hr row h2 z.2 (en_mem hz3).2.2
    have h4 := top_pos hm i z.1
    exact ⟨Int.ediv_nonneg h3.1 (by omega), Int.lt_of_le_of_lt (Int.ediv_le_self _ h3.1) h3.2⟩
  · unfold quoT
    rw [List.length_map, en_len]
    exact hz2.1
  · obtain ⟨i, row, h2, rfl⟩ := quo_mem h1
    rw [List.length_map, en_len]
    exact hz2.2 row h2
  · have e : topsM m (quoT m 0 (parts2M m D)) = parts2M m D := tops_quo _ 0 hd
    rw [e]
    exact cg_eq hm (cn_built hm) hD (cg_built.trans (cg_parts D))
end
theorem facts : Facts := by
  refine ⟨fun m net hM hN hl => ?_, fun m net x y hM hN h0 h1 h2 h3 => unnet_net (by have := hM.bd; omega) net ⟨h0, h1, h2, h3⟩⟩
  have hb := hM.bd
  have hm : 0 < m := by omega
  have sm := sm_of hM
  have lX : Lst m oX := ⟨cn_oX hb.1, least_oX hb.1⟩
  have lY : Lst m oY := ⟨cn_oY hb.1, least_oY hb.1⟩
  have LW := lst_W hm net lX lY
  have LU : Lst m (netUV m net).1 ∧ Lst m (netUV m net).2 := lst_UV hm net.reverse (p := (oX, oY)) lX lY
  have sX : Sz 4 oX := ⟨by decide, by decide⟩
  have sY : Sz 4 oY := ⟨by decide, by decide⟩
  have zW := sz4_W sm net sX sY
  have zU : Sz 4 (netUV m net).1 ∧ Sz 4 (netUV m net).2 := sz4_UV sm net.reverse (p := (oX, oY)) sX sY
  have atW : ∀ x y : Nat, m ∣ ev2 (netW m oX oY net).1 (x : Int) (y : Int) - (netM m net x y).1 ∧ m ∣ ev2 (netW m oX oY net).2 (x : Int) (y : Int) - (netM m net x y).2 := fun x y =>
    netW_at hm net ⟨0, by rw [ev_oX]; simp⟩ ⟨0, by rw [ev_oY]; simp⟩
  have atU : ∀ x y : Nat, m ∣ ev2 (netUV m net).1 (x : Int) (y : Int) - (unnetM m net x y).1 ∧ m ∣ ev2 (netUV m net).2 (x : Int) (y : Int) - (unnetM m net x y).2 := fun x y =>
    netUV_at hm net.reverse (U := oX) (V := oY) ⟨0, by rw [ev_oX]; simp⟩ ⟨0, by rw [ev_oY]; simp⟩
  -- one upon both, at all whole numbers from 0 on
  have comp : ∀ x y : Nat, m ∣ ev2 (netW m oX oY net).1 (ev2 (netUV m net).1 (x : Int) (y : Int)) (ev2 (netUV m net).2 (x : Int) (y : Int)) - x ∧
      m ∣ ev2 (netW m oX oY net).2 (ev2 (netUV m net).1 (x : Int) (y : Int)) (ev2 (netUV m net).2 (x : Int) (y : Int)) - y := fun x y => by
    have rx := mod_in hm (x : Int)
    have ry := mod_in hm (y : Int)
    have dx : m ∣ (x : Int) - (((x : Int) % m).toNat : Nat) := by
      rw [Int.toNat_of_nonneg rx.1]
      exact mod_dvd (by rw [Int.emod_emod_of_dvd _ (Int.dvd_refl m)])
    have dy : m ∣ (y : Int) - (((y : Int) % m).toNat : Nat) := by
      rw [Int.toNat_of_nonneg ry.1]
      exact mod_dvd (by rw [Int.emod_emod_of_dvd _ (Int.dvd_refl m)])
    have hin : InR m (((((x : Int) % m).toNat : Nat) : Int), ((((y : Int) % m).toNat : Nat) : Int)) := by
      rw [Int.toNat_of_nonneg rx.1, Int.toNat_of_nonneg ry.1]
      exact ⟨rx.1, rx.2, ry.1, ry.2⟩
    generalize ((x : Int) % m).toNat = x0 at dx hin
    generalize ((y : Int) % m).toNat = y0 at dy hin
    have u := atU x0 y0
    have nu := net_unnet hm net hin
    have ui := unnet_in hm net hin
    have U1 := Int.dvd_add (dvd_e2 dx dy (netUV m net).1) u.1
    have U2 := Int.dvd_add (dvd_e2 dx dy (netUV m net).2) u.2
    rw [show ev2 (netUV m net).1 (x : Int) (y : Int) - ev2 (netUV m net).1 (x0 : Int) (y0 : Int) + (ev2 (netUV m net).1 (x0 : Int) (y0 : Int) - (unnetM m net x0 y0).1) = ev2 (netUV m net).1 (x : Int) (y : Int) - (unnetM m net x0 y0).1 by omega] at U1
    rw [show ev2 (netUV m net).2 (x : Int) (y : Int) - ev2 (netUV m net).2 (x0 : Int) (y0 : Int) + (ev2 (netUV m net).2 (x0 : Int) (y0 : Int) - (unnetM m net x0 y0).2) = ev2 (netUV m net).2 (x : Int) (y : Int) - (unnetM m net x0 y0).2 by omega] at U2
    have P1 := dvd_e2 U1 U2 (netW m oX oY net).1
    have P2 := dvd_e2 U1 U2 (netW m oX oY net).2
    have w := atW (unnetM m net x0 y0).1.toNat (unnetM m net x0 y0).2.toNat
    rw [Int.toNat_of_nonneg ui.1, Int.toNat_of_nonneg ui.2.2.1, nu] at w
    have Q1 := Int.dvd_sub (Int.dvd_add P1 w.1) dx
    have Q2 := Int.dvd_sub (Int.dvd_add P2 w.2) dy
    constructor
    · have e : ∀ a b : Int, a - b + (b - (x0 : Int)) - ((x : Int) - x0) = a - x := fun a b => by omega
      rw [e] at Q1
      exact Q1
    · have e : ∀ a b : Int, a - b + (b - (y0 : Int)) - ((y : Int) - y0) = a - y := fun a b => by omega
      rw [e] at Q2
      exact Q2
  have zu1 := (sz_upon2 (m := m) zW.1 zU.1 zU.2)
  have zu2 := (sz_upon2 (m := m) zW.2 zU.1 zU.2)
  have n1 := null_of hm (D := less2M m (upon2M m (netW m oX oY net).1 (netUV m net).1 (netUV m net).2) oX) (cn_pol2 hm) (n := 40) (sz_less2 (zu1.mono (by decide)) (sX.mono (by decide))) fun x y => by
    have a := (cg_less2 (m := m) (P := upon2M m (netW m oX oY net).1 (netUV m net).1 (netUV m net).2) (Q := oX)).dvd (x : Int) (y : Int)
    have b := (cg_upon2 (m := m) (U := (netUV m net).1) (V := (netUV m net).2) (netW m oX oY net).1).dvd (x : Int) (y : Int)
    have c := (comp x y).1
    have d := Int.dvd_add (Int.dvd_add a b) c
    rw [ev_oX] at d
    have e : ∀ f g h : Int, f - (g - (x : Int)) + (g - h) + (h - (x : Int)) = f := fun f g h => by omega
    rw [e] at d
    exact d
  have n2 := null_of hm (D := less2M m (upon2M m (netW m oX oY net).2 (netUV m net).1 (netUV m net).2) oY) (cn_pol2 hm) (n := 40) (sz_less2 (zu2.mono (by decide)) (sY.mono (by decide))) fun x y => by
    have a := (cg_less2 (m := m) (P := upon2M m (netW m oX oY net).2 (netUV m net).1 (netUV m net).2) (Q := oY)).dvd (x : Int) (y : Int)
    have b := (cg_upon2 (m := m) (U := (netUV m net).1) (V := (netUV m net).2) (netW m oX oY net).2).dvd (x : Int) (y : Int)
    have c := (comp x y).2
    have d := Int.dvd_add (Int.dvd_add a b) c
    rw [ev_oY] at d
    have e : ∀ f g h : Int, f - (g - (y : Int)) + (g - h) + (h - (y : Int)) = f := fun f g h => by omega
    rw [e] at d
    exact d
  obtain ⟨a, a1, a2, a3, a4⟩ := n1
  obtain ⟨b, b1, b2, b3, b4⟩ := n2
  have add1 : ∀ {A B : List (List Int)}, addM m A B (-1) = less2M m A B := fun {A B} => cg_eq hm (cn_pol2 hm) (cn_pol2 hm) (cg_add.trans (cg_less2.symm.lhs fun x y => by omega))
  exact {
    sm := sm
    smL := smL_of hM
    both := both_eq hm net lX.1 lY.1
    null := ⟨a, b, a1, b1, ⟨a2, a3.mono (by decide), a4⟩, ⟨b2, b3.mono (by decide), b4⟩, ⟨a2, a3.mono (by decide), by rw [sum_built hm, a4, put_upon hm, add1]⟩, ⟨b2, b3.mono (by decide), by rw [sum_built hm, b4, put_upon hm, add1]⟩⟩
    rP := LW.1.red
    rQ := LW.2.red
    cU := LU.1.1
    cV := LU.2.1
    zP := by rw [put_upon hm]; exact zu1.mono (by decide)
    zQ := by rw [put_upon hm]; exact zu2.mono (by decide)
    lU := by rw [lleast_eq hm LU.1.red]; exact LU.1.2
    lV := by rw [lleast_eq hm LU.2.red]; exact LU.2.2
    fw := fun x y h0 h1 h2 h3 => by
      have h := atW x.toNat y.toNat
      rw [Int.toNat_of_nonneg h0, Int.toNat_of_nonneg h2] at h
      have hin := net_in hm net (x := x) (y := y) ⟨h0, h1, h2, h3⟩
      rw [atM_ev, atM_ev, dvd_mod h.1, dvd_mod h.2, Int.emod_eq_of_lt hin.1 hin.2.1, Int.emod_eq_of_lt hin.2.2.1 hin.2.2.2]
      exact ⟨rfl, rfl⟩
    bw := fun x y h0 h1 h2 h3 => by
      have hin := net_in hm net (x := x) (y := y) ⟨h0, h1, h2, h3⟩
      have h := atU (netM m net x y).1.toNat (netM m net x y).2.toNat
      rw [Int.toNat_of_nonneg hin.1, Int.toNat_of_nonneg hin.2.2.1, unnet_net hm net ⟨h0, h1, h2, h3⟩] at h
      rw [atM_ev, atM_ev, dvd_mod h.1, dvd_mod h.2, Int.emod_eq_of_lt h0 h1, Int.emod_eq_of_lt h2 h3]
      exact ⟨rfl, rfl⟩ }
end Nf

set_option Elab.async false
set_option linter.all false
set_option maxRecDepth 100000
set_option maxHeartbeats 4000000
/-! The join: what stands behind the top, and the law's end. Printed by genend.py. -/
namespace Nf
open PySem PySem.Spec PyProof.Rows L2
section
variable {K : PySem.W.Frag} {mg : Str → Option Value} {h : Heap}
theorem def_mk {x : Str} {st : Stmt} {ps : List Str} (X : K.In h) (G : h.Ns mainGlobals mg) {f : Addr} {od an : Option Addr} {sl : Array (Option Value)} {oc kV dc pm cd ct : Value}
    (a : PySem.W.nsIn K mainGlobals x = some (some (.ref f))) (l : K.lookup f = some ⟨oc, od, .func (PySem.W.fnOf x x (defArgs st) (defBody st) (defScope st) .none kV dc pm an cd ct), sl⟩) (c : PySem.W.codeIn K cd x = true) (k : PySem.W.keepIn K (.ref f) = true)
    (b : ∀ (kV doc pm : Value) (an : Option Addr) (cdv ct : Value) (us : List Value), us.length = ps.length → bindArgs (PySem.W.fnOf x x (defArgs st) (defBody st) (defScope st) .none kV doc pm an cdv ct) ⟨us, []⟩ = pure (ps.zip us)) : Nonempty (DefAt K mg x st ps) := by
  have F := fun_mk (st := st) l c k
  exact ⟨⟨f, _, F, PySem.W.mg_of X G a, F.binds b⟩⟩
theorem glob_X (X : K.In h) (G : h.Ns mainGlobals mg) {p q r : Addr} {o1 o2 o3 : Option Addr} {n1 n2 n3 : Nat} {s1 s2 s3 : Array (Option Value)} {t : Tok}
    (a : PySem.W.nsIn K mainGlobals "ONLY_X" = some (some (.ref p))) (l1 : K.lookup p = some ⟨.type "tuple", o1, .seq #[.ref q, .ref r] n1, s1⟩) (l2 : K.lookup q = some ⟨.type "tuple", o2, .seq #[] n2, s2⟩) (l3 : K.lookup r = some ⟨.type "tuple", o3, .seq #[.int 1 t] n3, s3⟩) : Nonempty (GlobAt K mg "ONLY_X" (tP [[], [1]])) := by
  refine ⟨⟨p, PySem.W.mg_of X G a, fun H => ?_⟩⟩
  refine rep_t (vs := [.ref q, .ref r]) (.inr ⟨_, _, _, l1, rfl, rfl, show 2 ≤ sizeLine by decide, .cons rfl (.cons rfl .nil)⟩) (Reps.cons ?_ (Reps.cons ?_ Reps.nil))
  · exact rep_t (vs := []) (.inr ⟨_, _, _, l2, rfl, rfl, by decide, .nil⟩) Reps.nil
  · exact rep_t (vs := [.int 1]) (.inr ⟨_, _, _, l3, rfl, rfl, show 1 ≤ sizeLine by decide, .cons ⟨t, rfl⟩ .nil⟩) (Reps.cons rep_i Reps.nil)
theorem glob_Y (X : K.In h) (G : h.Ns mainGlobals mg) {p q : Addr} {o1 o2 : Option Addr} {n1 n2 : Nat} {s1 s2 : Array (Option Value)} {t u : Tok}
    (a : PySem.W.nsIn K mainGlobals "ONLY_Y" = some (some (.ref p))) (l1 : K.lookup p = some ⟨.type "tuple", o1, .seq #[.ref q] n1, s1⟩) (l2 : K.lookup q = some ⟨.type "tuple", o2, .seq #[.int 0 t, .int 1 u] n2, s2⟩) : Nonempty (GlobAt K mg "ONLY_Y" (tP [[0, 1]])) := by
  refine ⟨⟨p, PySem.W.mg_of X G a, fun H => ?_⟩⟩
  refine rep_t (vs := [.ref q]) (.inr ⟨_, _, _, l1, rfl, rfl, show 1 ≤ sizeLine by decide, .cons rfl .nil⟩) (Reps.cons ?_ Reps.nil)
  exact rep_t (vs := [.int 0, .int 1]) (.inr ⟨_, _, _, l2, rfl, rfl, show 2 ≤ sizeLine by decide, .cons ⟨t, rfl⟩ (.cons ⟨u, rfl⟩ .nil)⟩) (Reps.cons rep_i (Reps.cons rep_i Reps.nil))
theorem int_mk (X : K.In h) (G : h.Ns mainGlobals mg) {t : Tok} (a : PySem.W.nsIn K mainGlobals "MOST_ROWS" = some (some (.int 80 t))) : Nonempty (IntAt mg "MOST_ROWS" 80) := ⟨⟨t, PySem.W.mg_of X G a⟩⟩
end
theorem reps_ints {K : PySem.W.Frag} {H : Hp} : ∀ ns : List Int, Reps K H (ns.map Dt.i) (ns.map V.int)
  | [] => Reps.nil
  | n :: ns => Reps.cons rep_i (reps_ints ns)
/-- the goal that the head leaves -/
theorem walk_end {l : PySem.W.OpenLaw} {n : Nat} {q : Program} {loose : List Str} {XP : (Str → Option Value) → Heap → Prop} {YP : World → Heap → Prop} {d : DefRec} {K : Params → PySem.W.Frag}
    (hn : l.most = some n) (hn2 : n ≤ sizeLine) (hdf : d.params.defaults = []) (hY : ∀ (w : World) (h : Heap), YP w h → (K w.params).In h) (hname : d.name = "law")
    (F : ∀ (w : World) (mg : Str → Option Value) (h : Heap), (K w.params).In h → h.Ns mainGlobals mg → Nonempty (Txt (K w.params) mg) ∧ Nonempty (DefAt (K w.params) mg "law" s_law ["_law_script"])) :
    PySem.W.WalkO q loose XP YP l.row.toRowW d [] (fun f vs => PySem.call f vs) := by
  refine Att.attach_call hn hdf fun w s₀ s₁ mg mb fa o pm cd doc a vs ns G Y ho hd hcd hmg hobj hints hlen hg => ?_
  have KX := hY w _ Y
  obtain ⟨⟨T⟩, ⟨D⟩⟩ := F w mg _ KX G.T.g
  rw [hname, D.g] at hmg
  cases hmg
  refine law_once KX G.T.g G.T.b G.T.builtins G.T.nolimit hg hobj hints (Nat.le_trans hlen hn2) fun base H env seq => ?_
  refine call_once (k := 8) (y := "_law_script") (v := .ref a) D.F sc_law ⟨rfl, by decide, by decide⟩ env (D.b s₁ [.ref a] KX rfl) rfl fun cdv room => ?_
  obtain ⟨t, run, wp⟩ := law_body (P := l.prog) (w := w) (base := base) (s := s₁) (H := H) (E := fun _ _ _ => False) T facts room
  refine ⟨t, run, ?_⟩
  have eH : hid [] H = H := funext fun b => hid_of (fun z => nomatch z)
  have stk : Stk (K w.params) [] nos H := ⟨fun b hb => (nomatch hb), fun p c hp => by cases hp⟩
  have rep : Reps (K w.params) (hid [] H) [lI ns] [.ref a] := by
    rw [eH]
    exact Reps.cons (rep_l seq (reps_ints ns)) Reps.nil
  refine wp ns [] _ H { nx := fun _ H' => (fun v _ => v = V.bl true) V.non H', rt := fun v _ => v = .bl true } (start_holds (N := ["_law_script", "_law_tape_here", "_law_turn", "_law_m", "_law_net_here", "_law_kp", "_law_kq", "_law_told", "_law_known", "_law_x", "_law_y", "_law_u", "_law_v", "_law_other", "_law_k", "_law_spot", "_law_last", "_law_longer"]) stk rep) (fun sl' S' M' σ' H' e _ _ => e.elim) fun d S' M' v H' e _ _ r => ?_
  subst e
  exact r.bl_inv
theorem txt_mk {K : PySem.W.Frag} {mg : Str → Option Value} {h : Heap} (X : K.In h) (G : h.Ns mainGlobals mg)
    (h_common : Nonempty (DefAt K mg "common" s_common ["a", "b"]))
    (h_poly : Nonempty (DefAt K mg "poly" s_poly ["m", "numbers"]))
    (h_value : Nonempty (DefAt K mg "value" s_value ["m", "f", "x"]))
    (h_coefficient_at : Nonempty (DefAt K mg "coefficient_at" s_coefficient_at ["f", "k"]))
    (h_plus : Nonempty (DefAt K mg "plus" s_plus ["m", "f", "g"]))
    (h_less : Nonempty (DefAt K mg "less" s_less ["m", "f", "g"]))
    (h_times : Nonempty (DefAt K mg "times" s_times ["m", "f", "g"]))
    (h_is_rest : Nonempty (DefAt K mg "is_rest" s_is_rest ["m", "thing"]))
    (h_is_row : Nonempty (DefAt K mg "is_row" s_is_row ["m", "thing"]))
    (h_is_poly2 : Nonempty (DefAt K mg "is_poly2" s_is_poly2 ["m", "thing"]))
    (h_poly2 : Nonempty (DefAt K mg "poly2" s_poly2 ["m", "rows"]))
    (h_row_of : Nonempty (DefAt K mg "row_of" s_row_of ["P", "i"]))
    (h_plus2 : Nonempty (DefAt K mg "plus2" s_plus2 ["m", "P", "Q"]))
    (h_less2 : Nonempty (DefAt K mg "less2" s_less2 ["m", "P", "Q"]))
    (h_times2 : Nonempty (DefAt K mg "times2" s_times2 ["m", "P", "Q"]))
    (h_upon2 : Nonempty (DefAt K mg "upon2" s_upon2 ["m", "P", "U", "V"]))
    (h_in_x : Nonempty (DefAt K mg "in_x" s_in_x ["f"]))
    (h_rising_product : Nonempty (DefAt K mg "rising_product" s_rising_product ["k"]))
    (h_top2 : Nonempty (DefAt K mg "top2" s_top2 ["m", "i", "j"]))
    (h_all_neighbours : Nonempty (DefAt K mg "all_neighbours" s_all_neighbours ["m", "many"]))
    (h_wide_of : Nonempty (DefAt K mg "wide_of" s_wide_of ["table"]))
    (h_built : Nonempty (DefAt K mg "built" s_built ["m", "table"]))
    (h_is_table : Nonempty (DefAt K mg "is_table" s_is_table ["m", "thing"]))
    (h_row_of_tops : Nonempty (DefAt K mg "row_of_tops" s_row_of_tops ["m", "i", "row"]))
    (h_lets_null2 : Nonempty (DefAt K mg "lets_null2" s_lets_null2 ["m", "P", "thing"]))
    (h_parted : Nonempty (DefAt K mg "parted" s_parted ["m", "numbers"]))
    (h_parts2 : Nonempty (DefAt K mg "parts2" s_parts2 ["m", "P"]))
    (h_null2_paper : Nonempty (DefAt K mg "null2_paper" s_null2_paper ["m", "P"]))
    (h_least2 : Nonempty (DefAt K mg "least2" s_least2 ["m", "P"]))
    (h_is_null2 : Nonempty (DefAt K mg "is_null2" s_is_null2 ["m", "P", "thing"]))
    (h_has_word : Nonempty (DefAt K mg "has_word" s_has_word ["thing", "word", "many"]))
    (h_is_shown : Nonempty (DefAt K mg "is_shown" s_is_shown ["m", "thing", "word"]))
    (h_ask_both : Nonempty (DefAt K mg "ask_both" s_ask_both ["m", "one", "other", "a", "b"]))
    (h_lets_apart : Nonempty (DefAt K mg "lets_apart" s_lets_apart ["m", "P", "Q", "thing"]))
    (h_apart_paper : Nonempty (DefAt K mg "apart_paper" s_apart_paper ["m", "P", "Q", "U", "V"]))
    (h_netted : Nonempty (DefAt K mg "netted" s_netted ["m", "net", "x", "y"]))
    (h_unnetted : Nonempty (DefAt K mg "unnetted" s_unnetted ["m", "net", "x", "y"]))
    (h_with_key : Nonempty (DefAt K mg "with_key" s_with_key ["m", "step", "R"]))
    (h_net_paper : Nonempty (DefAt K mg "net_paper" s_net_paper ["m", "net"]))
    (h_net_whole : Nonempty (DefAt K mg "net_whole" s_net_whole ["m", "net"]))
    (h_net_apart : Nonempty (DefAt K mg "net_apart" s_net_apart ["m", "net"]))
    (h_law_tape : Nonempty (DefAt K mg "_law_tape" s_law_tape ["_law_script"]))
    (h_law_draw : Nonempty (DefAt K mg "_law_draw" s_law_draw ["_law_tape_here", "_law_many"]))
    (h_law_trim : Nonempty (DefAt K mg "_law_trim" s_law_trim ["_law_m", "_law_rows"]))
    (h_law_at : Nonempty (DefAt K mg "_law_at" s_law_at ["_law_m", "_law_kp", "_law_x", "_law_y"]))
    (h_law_add : Nonempty (DefAt K mg "_law_add" s_law_add ["_law_m", "_law_kp", "_law_kq", "_law_by"]))
    (h_law_mul : Nonempty (DefAt K mg "_law_mul" s_law_mul ["_law_m", "_law_kp", "_law_kq"]))
    (h_law_put : Nonempty (DefAt K mg "_law_put" s_law_put ["_law_m", "_law_kp", "_law_ku", "_law_kv"]))
    (h_law_gcd : Nonempty (DefAt K mg "_law_gcd" s_law_gcd ["_law_one", "_law_other"]))
    (h_law_top : Nonempty (DefAt K mg "_law_top" s_law_top ["_law_m", "_law_i", "_law_j"]))
    (h_law_split : Nonempty (DefAt K mg "_law_split" s_law_split ["_law_m", "_law_numbers"]))
    (h_law_parts : Nonempty (DefAt K mg "_law_parts" s_law_parts ["_law_m", "_law_kp"]))
    (h_law_unsplit : Nonempty (DefAt K mg "_law_unsplit" s_law_unsplit ["_law_m", "_law_numbers"]))
    (h_law_sum : Nonempty (DefAt K mg "_law_sum" s_law_sum ["_law_m", "_law_table"]))
    (h_law_is_rest : Nonempty (DefAt K mg "_law_is_rest" s_law_is_rest ["_law_m", "_law_thing"]))
    (h_law_is_grid : Nonempty (DefAt K mg "_law_is_grid" s_law_is_grid ["_law_m", "_law_thing"]))
    (h_law_null_due : Nonempty (DefAt K mg "_law_null_due" s_law_null_due ["_law_m", "_law_kp", "_law_thing"]))
    (h_law_is : Nonempty (DefAt K mg "_law_is" s_law_is ["_law_m", "_law_thing"]))
    (h_law_net : Nonempty (DefAt K mg "_law_net" s_law_net ["_law_tape_here", "_law_m", "_law_few", "_law_most"]))
    (h_law_wide : Nonempty (DefAt K mg "_law_wide" s_law_wide ["_law_m", "_law_kp", "_law_kr", "_law_turn"]))
    (h_law_least : Nonempty (DefAt K mg "_law_least" s_law_least ["_law_m", "_law_kp"]))
    (h_law_both : Nonempty (DefAt K mg "_law_both" s_law_both ["_law_m", "_law_net_here"]))
    (h_law_paper_right : Nonempty (DefAt K mg "_law_paper_right" s_law_paper_right ["_law_m", "_law_kp", "_law_kq", "_law_thing"]))
    (h_law : Nonempty (DefAt K mg "law" s_law ["_law_script"]))
    (z_abs : PySem.W.nsIn K mainGlobals "abs" = some none)
    (z_len : PySem.W.nsIn K mainGlobals "len" = some none)
    (z_reversed : PySem.W.nsIn K mainGlobals "reversed" = some none)
    (z_range : PySem.W.nsIn K mainGlobals "range" = some none)
    (z_max : PySem.W.nsIn K mainGlobals "max" = some none)
    (z_min : PySem.W.nsIn K mainGlobals "min" = some none)
    (z_tuple : PySem.W.nsIn K mainGlobals "tuple" = some none)
    (z_isinstance : PySem.W.nsIn K mainGlobals "isinstance" = some none)
    (z_all : PySem.W.nsIn K mainGlobals "all" = some none)
    (z_any : PySem.W.nsIn K mainGlobals "any" = some none)
    (z_list : PySem.W.nsIn K mainGlobals "list" = some none)
    (z_enumerate : PySem.W.nsIn K mainGlobals "enumerate" = some none)
    (z_zip : PySem.W.nsIn K mainGlobals "zip" = some none)
    (z_int : PySem.W.nsIn K mainGlobals "int" = some none)
    (z_repr : PySem.W.nsIn K mainGlobals "repr" = some none)
    (z_bool : PySem.W.nsIn K mainGlobals "bool" = some none)
    (z_str : PySem.W.nsIn K mainGlobals "str" = some none)
    (h_MOST : Nonempty (IntAt mg "MOST_ROWS" 80)) (h_X : Nonempty (GlobAt K mg "ONLY_X" (tP [[], [1]]))) (h_Y : Nonempty (GlobAt K mg "ONLY_Y" (tP [[0, 1]]))) : Nonempty (Txt K mg) ∧ Nonempty (DefAt K mg "law" s_law ["_law_script"]) := by
  obtain ⟨d_common⟩ := h_common
  obtain ⟨d_poly⟩ := h_poly
  obtain ⟨d_value⟩ := h_value
  obtain ⟨d_coefficient_at⟩ := h_coefficient_at
  obtain ⟨d_plus⟩ := h_plus
  obtain ⟨d_less⟩ := h_less
  obtain ⟨d_times⟩ := h_times
  obtain ⟨d_is_rest⟩ := h_is_rest
  obtain ⟨d_is_row⟩ := h_is_row
  obtain ⟨d_is_poly2⟩ := h_is_poly2
  obtain ⟨d_poly2⟩ := h_poly2
  obtain ⟨d_row_of⟩ := h_row_of
  obtain ⟨d_plus2⟩ := h_plus2
  obtain ⟨d_less2⟩ := h_less2
  obtain ⟨d_times2⟩ := h_times2
  obtain ⟨d_upon2⟩ := h_upon2
  obtain ⟨d_in_x⟩ := h_in_x
  obtain ⟨d_rising_product⟩ := h_rising_product
  obtain ⟨d_top2⟩ := h_top2
  obtain ⟨d_all_neighbours⟩ := h_all_neighbours
  obtain ⟨d_wide_of⟩ := h_wide_of
  obtain ⟨d_built⟩ := h_built
  obtain ⟨d_is_table⟩ := h_is_table
  obtain ⟨d_row_of_tops⟩ := h_row_of_tops
  obtain ⟨d_lets_null2⟩ := h_lets_null2
  obtain ⟨d_parted⟩ := h_parted
  obtain ⟨d_parts2⟩ := h_parts2
  obtain ⟨d_null2_paper⟩ := h_null2_paper
  obtain ⟨d_least2⟩ := h_least2
  obtain ⟨d_is_null2⟩ := h_is_null2
  obtain ⟨d_has_word⟩ := h_has_word
  obtain ⟨d_is_shown⟩ := h_is_shown
  obtain ⟨d_ask_both⟩ := h_ask_both
  obtain ⟨d_lets_apart⟩ := h_lets_apart
  obtain ⟨d_apart_paper⟩ := h_apart_paper
  obtain ⟨d_netted⟩ := h_netted
  obtain ⟨d_unnetted⟩ := h_unnetted
  obtain ⟨d_with_key⟩ := h_with_key
  obtain ⟨d_net_paper⟩ := h_net_paper
  obtain ⟨d_net_whole⟩ := h_net_whole
  obtain ⟨d_net_apart⟩ := h_net_apart
  obtain ⟨d_law_tape⟩ := h_law_tape
  obtain ⟨d_law_draw⟩ := h_law_draw
  obtain ⟨d_law_trim⟩ := h_law_trim
  obtain ⟨d_law_at⟩ := h_law_at
  obtain ⟨d_law_add⟩ := h_law_add
  obtain ⟨d_law_mul⟩ := h_law_mul
  obtain ⟨d_law_put⟩ := h_law_put
  obtain ⟨d_law_gcd⟩ := h_law_gcd
  obtain ⟨d_law_top⟩ := h_law_top
  obtain ⟨d_law_split⟩ := h_law_split
  obtain ⟨d_law_parts⟩ := h_law_parts
  obtain ⟨d_law_unsplit⟩ := h_law_unsplit
  obtain ⟨d_law_sum⟩ := h_law_sum
  obtain ⟨d_law_is_rest⟩ := h_law_is_rest
  obtain ⟨d_law_is_grid⟩ := h_law_is_grid
  obtain ⟨d_law_null_due⟩ := h_law_null_due
  obtain ⟨d_law_is⟩ := h_law_is
  obtain ⟨d_law_net⟩ := h_law_net
  obtain ⟨d_law_wide⟩ := h_law_wide
  obtain ⟨d_law_least⟩ := h_law_least
  obtain ⟨d_law_both⟩ := h_law_both
  obtain ⟨d_law_paper_right⟩ := h_law_paper_right
  obtain ⟨d_MOST⟩ := h_MOST
  obtain ⟨d_X⟩ := h_X
  obtain ⟨d_Y⟩ := h_Y
  exact ⟨⟨⟨d_common, d_poly, d_value, d_coefficient_at, d_plus, d_less, d_times, d_is_rest, d_is_row, d_is_poly2, d_poly2, d_row_of, d_plus2, d_less2, d_times2, d_upon2, d_in_x, d_rising_product, d_top2, d_all_neighbours, d_wide_of, d_built, d_is_table, d_row_of_tops, d_lets_null2, d_parted, d_parts2, d_null2_paper, d_least2, d_is_null2, d_has_word, d_is_shown, d_ask_both, d_lets_apart, d_apart_paper, d_netted, d_unnetted, d_with_key, d_net_paper, d_net_whole, d_net_apart, d_law_tape, d_law_draw, d_law_trim, d_law_at, d_law_add, d_law_mul, d_law_put, d_law_gcd, d_law_top, d_law_split, d_law_parts, d_law_unsplit, d_law_sum, d_law_is_rest, d_law_is_grid, d_law_null_due, d_law_is, d_law_net, d_law_wide, d_law_least, d_law_both, d_law_paper_right, PySem.W.mg_none_of X G z_abs, PySem.W.mg_none_of X G z_len, PySem.W.mg_none_of X G z_reversed, PySem.W.mg_none_of X G z_range, PySem.W.mg_none_of X G z_max, PySem.W.mg_none_of X G z_min, PySem.W.mg_none_of X G z_tuple, PySem.W.mg_none_of X G z_isinstance, PySem.W.mg_none_of X G z_all, PySem.W.mg_none_of X G z_any, PySem.W.mg_none_of X G z_list, PySem.W.mg_none_of X G z_enumerate, PySem.W.mg_none_of X G z_zip, PySem.W.mg_none_of X G z_int, PySem.W.mg_none_of X G z_repr, PySem.W.mg_none_of X G z_bool, PySem.W.mg_none_of X G z_str, d_MOST, d_X, d_Y⟩⟩, h_law⟩
end Nf
open PySem PySem.W PyProof.Rows
set_option maxHeartbeats 0 in
theorem PySem.Challenge.cw_shufflerests_k86_whole_nets_are_apart_holds : PySem.Challenge.rw_shufflerests_k86_whole_nets_are_apart.Holds := by
  w_on; o_law; k_head; (case hw => w_witness2)
  k_fill
  refine Nf.walk_end (l := PySem.Challenge.rw_shufflerests_k86_whole_nets_are_apart) (n := 63) rfl (by decide) rfl (fun w h Y => PySem.W.kIn_of Y) rfl ?F
  case F =>
    intro w mg h KX G
    refine' Nf.txt_mk KX G ?h_common ?h_poly ?h_value ?h_coefficient_at ?h_plus ?h_less ?h_times ?h_is_rest ?h_is_row ?h_is_poly2 ?h_poly2 ?h_row_of ?h_plus2 ?h_less2 ?h_times2 ?h_upon2 ?h_in_x ?h_rising_product ?h_top2 ?h_all_neighbours ?h_wide_of ?h_built ?h_is_table ?h_row_of_tops ?h_lets_null2 ?h_parted ?h_parts2 ?h_null2_paper ?h_least2 ?h_is_null2 ?h_has_word ?h_is_shown ?h_ask_both ?h_lets_apart ?h_apart_paper ?h_netted ?h_unnetted ?h_with_key ?h_net_paper ?h_net_whole ?h_net_apart ?h_law_tape ?h_law_draw ?h_law_trim ?h_law_at ?h_law_add ?h_law_mul ?h_law_put ?h_law_gcd ?h_law_top ?h_law_split ?h_law_parts ?h_law_unsplit ?h_law_sum ?h_law_is_rest ?h_law_is_grid ?h_law_null_due ?h_law_is ?h_law_net ?h_law_wide ?h_law_least ?h_law_both ?h_law_paper_right ?h_law ?z_abs ?z_len ?z_reversed ?z_range ?z_max ?z_min ?z_tuple ?z_isinstance ?z_all ?z_any ?z_list ?z_enumerate ?z_zip ?z_int ?z_repr ?z_bool ?z_str ?h_MOST ?h_X ?h_Y
    case h_common => (refine' Nf.def_mk KX G ?a ?l ?c ?k (fun _ _ _ _ _ _ us hl => match us, hl with | [_, _], _ => rfl)); (case a => k_is); (case l => k_is); (case c => k_is); (case k => k_is)
    case h_poly => (refine' Nf.def_mk KX G ?a ?l ?c ?k (fun _ _ _ _ _ _ us hl => match us, hl with | [_, _], _ => rfl)); (case a => k_is); (case l => k_is); (case c => k_is); (case k => k_is)
    case h_value => (refine' Nf.def_mk KX G ?a ?l ?c ?k (fun _ _ _ _ _ _ us hl => match us, hl with | [_, _, _], _ => rfl)); (case a => k_is); (case l => k_is); (case c => k_is); (case k => k_is)
    case h_coefficient_at => (refine' Nf.def_mk KX G ?a ?l ?c ?k (fun _ _ _ _ _ _ us hl => match us, hl with | [_, _], _ => rfl)); (case a => k_is); (case l => k_is); (case c => k_is); (case k => k_is)
    case h_plus => (refine' Nf.def_mk KX G ?a ?l ?c ?k (fun _ _ _ _ _ _ us hl => match us, hl with | [_, _, _], _ => rfl)); (case a => k_is); (case l => k_is); (case c => k_is); (case k => k_is)
    case h_less => (refine' Nf.def_mk KX G ?a ?l ?c ?k (fun _ _ _ _ _ _ us hl => match us, hl with | [_, _, _], _ => rfl)); (case a => k_is); (case l => k_is); (case c => k_is); (case k => k_is)
    case h_times => (refine' Nf.def_mk KX G ?a ?l ?c ?k (fun _ _ _ _ _ _ us hl => match us, hl with | [_, _, _], _ => rfl)); (case a => k_is); (case l => k_is); (case c => k_is); (case k => k_is)
    case h_is_rest => (refine' Nf.def_mk KX G ?a ?l ?c ?k (fun _ _ _ _ _ _ us hl => match us, hl with | [_, _], _ => rfl)); (case a => k_is); (case l => k_is); (case c => k_is); (case k => k_is)
    case h_is_row => (refine' Nf.def_mk KX G ?a ?l ?c ?k (fun _ _ _ _ _ _ us hl => match us, hl with | [_, _], _ => rfl)); (case a => k_is); (case l => k_is); (case c => k_is); (case k => k_is)
    case h_is_poly2 => (refine' Nf.def_mk KX G ?a ?l ?c ?k (fun _ _ _ _ _ _ us hl => match us, hl with | [_, _], _ => rfl)); (case a => k_is); (case l => k_is); (case c => k_is); (case k => k_is)
    case h_poly2 => (refine' Nf.def_mk KX G ?a ?l ?c ?k (fun _ _ _ _ _ _ us hl => match us, hl with | [_, _], _ => rfl)); (case a => k_is); (case l => k_is); (case c => k_is); (case k => k_is)
    case h_row_of => (refine' Nf.def_mk KX G ?a ?l ?c ?k (fun _ _ _ _ _ _ us hl => match us, hl with | [_, _], _ => rfl)); (case a => k_is); (case l => k_is); (case c => k_is); (case k => k_is)
    case h_plus2 => (refine' Nf.def_mk KX G ?a ?l ?c ?k (fun _ _ _ _ _ _ us hl => match us, hl with | [_, _, _], _ => rfl)); (case a => k_is); (case l => k_is); (case c => k_is); (case k => k_is)
    case h_less2 => (refine' Nf.def_mk KX G ?a ?l ?c ?k (fun _ _ _ _ _ _ us hl => match us, hl with | [_, _, _], _ => rfl)); (case a => k_is); (case l => k_is); (case c => k_is); (case k => k_is)
    case h_times2 => (refine' Nf.def_mk KX G ?a ?l ?c ?k (fun _ _ _ _ _ _ us hl => match us, hl with | [_, _, _], _ => rfl)); (case a => k_is); (case l => k_is); (case c => k_is); (case k => k_is)
    case h_upon2 => (refine' Nf.def_mk KX G ?a ?l ?c ?k (fun _ _ _ _ _ _ us hl => match us, hl with | [_, _, _, _], _ => rfl)); (case a => k_is); (case l => k_is); (case c => k_is); (case k => k_is)
    case h_in_x => (refine' Nf.def_mk KX G ?a ?l ?c ?k (fun _ _ _ _ _ _ us hl => match us, hl with | [_], _ => rfl)); (case a => k_is); (case l => k_is); (case c => k_is); (case k => k_is)
    case h_rising_product => (refine' Nf.def_mk KX G ?a ?l ?c ?k (fun _ _ _ _ _ _ us hl => match us, hl with | [_], _ => rfl)); (case a => k_is); (case l => k_is); (case c => k_is); (case k => k_is)
    case h_top2 => (refine' Nf.def_mk KX G ?a ?l ?c ?k (fun _ _ _ _ _ _ us hl => match us, hl with | [_, _, _], _ => rfl)); (case a => k_is); (case l => k_is); (case c => k_is); (case k => k_is)
    case h_all_neighbours => (refine' Nf.def_mk KX G ?a ?l ?c ?k (fun _ _ _ _ _ _ us hl => match us, hl with | [_, _], _ => rfl)); (case a => k_is); (case l => k_is); (case c => k_is); (case k => k_is)
    case h_wide_of => (refine' Nf.def_mk KX G ?a ?l ?c ?k (fun _ _ _ _ _ _ us hl => match us, hl with | [_], _ => rfl)); (case a => k_is); (case l => k_is); (case c => k_is); (case k => k_is)
    case h_built => (refine' Nf.def_mk KX G ?a ?l ?c ?k (fun _ _ _ _ _ _ us hl => match us, hl with | [_, _], _ => rfl)); (case a => k_is); (case l => k_is); (case c => k_is); (case k => k_is)
    case h_is_table => (refine' Nf.def_mk KX G ?a ?l ?c ?k (fun _ _ _ _ _ _ us hl => match us, hl with | [_, _], _ => rfl)); (case a => k_is); (case l => k_is); (case c => k_is); (case k => k_is)
    case h_row_of_tops => (refine' Nf.def_mk KX G ?a ?l ?c ?k (fun _ _ _ _ _ _ us hl => match us, hl with | [_, _, _], _ => rfl)); (case a => k_is); (case l => k_is); (case c => k_is); (case k => k_is)
    case h_lets_null2 => (refine' Nf.def_mk KX G ?a ?l ?c ?k (fun _ _ _ _ _ _ us hl => match us, hl with | [_, _, _], _ => rfl)); (case a => k_is); (case l => k_is); (case c => k_is); (case k => k_is)
    case h_parted => (refine' Nf.def_mk KX G ?a ?l ?c ?k (fun _ _ _ _ _ _ us hl => match us, hl with | [_, _], _ => rfl)); (case a => k_is); (case l => k_is); (case c => k_is); (case k => k_is)
    case h_parts2 => (refine' Nf.def_mk KX G ?a ?l ?c ?k (fun _ _ _ _ _ _ us hl => match us, hl with | [_, _], _ => rfl)); (case a => k_is); (case l => k_is); (case c => k_is); (case k => k_is)
    case h_null2_paper => (refine' Nf.def_mk KX G ?a ?l ?c ?k (fun _ _ _ _ _ _ us hl => match us, hl with | [_, _], _ => rfl)); (case a => k_is); (case l => k_is); (case c => k_is); (case k => k_is)
    case h_least2 => (refine' Nf.def_mk KX G ?a ?l ?c ?k (fun _ _ _ _ _ _ us hl => match us, hl with | [_, _], _ => rfl)); (case a => k_is); (case l => k_is); (case c => k_is); (case k => k_is)
    case h_is_null2 => (refine' Nf.def_mk KX G ?a ?l ?c ?k (fun _ _ _ _ _ _ us hl => match us, hl with | [_, _, _], _ => rfl)); (case a => k_is); (case l => k_is); (case c => k_is); (case k => k_is)
    case h_has_word => (refine' Nf.def_mk KX G ?a ?l ?c ?k (fun _ _ _ _ _ _ us hl => match us, hl with | [_, _, _], _ => rfl)); (case a => k_is); (case l => k_is); (case c => k_is); (case k => k_is)
    case h_is_shown => (refine' Nf.def_mk KX G ?a ?l ?c ?k (fun _ _ _ _ _ _ us hl => match us, hl with | [_, _, _], _ => rfl)); (case a => k_is); (case l => k_is); (case c => k_is); (case k => k_is)
    case h_ask_both => (refine' Nf.def_mk KX G ?a ?l ?c ?k (fun _ _ _ _ _ _ us hl => match us, hl with | [_, _, _, _, _], _ => rfl)); (case a => k_is); (case l => k_is); (case c => k_is); (case k => k_is)
    case h_lets_apart => (refine' Nf.def_mk KX G ?a ?l ?c ?k (fun _ _ _ _ _ _ us hl => match us, hl with | [_, _, _, _], _ => rfl)); (case a => k_is); (case l => k_is); (case c => k_is); (case k => k_is)
    case h_apart_paper => (refine' Nf.def_mk KX G ?a ?l ?c ?k (fun _ _ _ _ _ _ us hl => match us, hl with | [_, _, _, _, _], _ => rfl)); (case a => k_is); (case l => k_is); (case c => k_is); (case k => k_is)
    case h_netted => (refine' Nf.def_mk KX G ?a ?l ?c ?k (fun _ _ _ _ _ _ us hl => match us, hl with | [_, _, _, _], _ => rfl)); (case a => k_is); (case l => k_is); (case c => k_is); (case k => k_is)
    case h_unnetted => (refine' Nf.def_mk KX G ?a ?l ?c ?k (fun _ _ _ _ _ _ us hl => match us, hl with | [_, _, _, _], _ => rfl)); (case a => k_is); (case l => k_is); (case c => k_is); (case k => k_is)
    case h_with_key => (refine' Nf.def_mk KX G ?a ?l ?c ?k (fun _ _ _ _ _ _ us hl => match us, hl with | [_, _, _], _ => rfl)); (case a => k_is); (case l => k_is); (case c => k_is); (case k => k_is)
    case h_net_paper => (refine' Nf.def_mk KX G ?a ?l ?c ?k (fun _ _ _ _ _ _ us hl => match us, hl with | [_, _], _ => rfl)); (case a => k_is); (case l => k_is); (case c => k_is); (case k => k_is)
    case h_net_whole => (refine' Nf.def_mk KX G ?a ?l ?c ?k (fun _ _ _ _ _ _ us hl => match us, hl with | [_, _], _ => rfl)); (case a => k_is); (case l => k_is); (case c => k_is); (case k => k_is)
    case h_net_apart => (refine' Nf.def_mk KX G ?a ?l ?c ?k (fun _ _ _ _ _ _ us hl => match us, hl with | [_, _], _ => rfl)); (case a => k_is); (case l => k_is); (case c => k_is); (case k => k_is)
    case h_law_tape => (refine' Nf.def_mk KX G ?a ?l ?c ?k (fun _ _ _ _ _ _ us hl => match us, hl with | [_], _ => rfl)); (case a => k_is); (case l => k_is); (case c => k_is); (case k => k_is)
    case h_law_draw => (refine' Nf.def_mk KX G ?a ?l ?c ?k (fun _ _ _ _ _ _ us hl => match us, hl with | [_, _], _ => rfl)); (case a => k_is); (case l => k_is); (case c => k_is); (case k => k_is)
    case h_law_trim => (refine' Nf.def_mk KX G ?a ?l ?c ?k (fun _ _ _ _ _ _ us hl => match us, hl with | [_, _], _ => rfl)); (case a => k_is); (case l => k_is); (case c => k_is); (case k => k_is)
    case h_law_at => (refine' Nf.def_mk KX G ?a ?l ?c ?k (fun _ _ _ _ _ _ us hl => match us, hl with | [_, _, _, _], _ => rfl)); (case a => k_is); (case l => k_is); (case c => k_is); (case k => k_is)
    case h_law_add => (refine' Nf.def_mk KX G ?a ?l ?c ?k (fun _ _ _ _ _ _ us hl => match us, hl with | [_, _, _, _], _ => rfl)); (case a => k_is); (case l => k_is); (case c => k_is); (case k => k_is)
    case h_law_mul => (refine' Nf.def_mk KX G ?a ?l ?c ?k (fun _ _ _ _ _ _ us hl => match us, hl with | [_, _, _], _ => rfl)); (case a => k_is); (case l => k_is); (case c => k_is); (case k => k_is)
    case h_law_put => (refine' Nf.def_mk KX G ?a ?l ?c ?k (fun _ _ _ _ _ _ us hl => match us, hl with | [_, _, _, _], _ => rfl)); (case a => k_is); (case l => k_is); (case c => k_is); (case k => k_is)
    case h_law_gcd => (refine' Nf.def_mk KX G ?a ?l ?c ?k (fun _ _ _ _ _ _ us hl => match us, hl with | [_, _], _ => rfl)); (case a => k_is); (case l => k_is); (case c => k_is); (case k => k_is)
    case h_law_top => (refine' Nf.def_mk KX G ?a ?l ?c ?k (fun _ _ _ _ _ _ us hl => match us, hl with | [_, _, _], _ => rfl)); (case a => k_is); (case l => k_is); (case c => k_is); (case k => k_is)
    case h_law_split => (refine' Nf.def_mk KX G ?a ?l ?c ?k (fun _ _ _ _ _ _ us hl => match us, hl with | [_, _], _ => rfl)); (case a => k_is); (case l => k_is); (case c => k_is); (case k => k_is)
    case h_law_parts => (refine' Nf.def_mk KX G ?a ?l ?c ?k (fun _ _ _ _ _ _ us hl => match us, hl with | [_, _], _ => rfl)); (case a => k_is); (case l => k_is); (case c => k_is); (case k => k_is)
    case h_law_unsplit => (refine' Nf.def_mk KX G ?a ?l ?c ?k (fun _ _ _ _ _ _ us hl => match us, hl with | [_, _], _ => rfl)); (case a => k_is); (case l => k_is); (case c => k_is); (case k => k_is)
    case h_law_sum => (refine' Nf.def_mk KX G ?a ?l ?c ?k (fun _ _ _ _ _ _ us hl => match us, hl with | [_, _], _ => rfl)); (case a => k_is); (case l => k_is); (case c => k_is); (case k => k_is)
    case h_law_is_rest => (refine' Nf.def_mk KX G ?a ?l ?c ?k (fun _ _ _ _ _ _ us hl => match us, hl with | [_, _], _ => rfl)); (case a => k_is); (case l => k_is); (case c => k_is); (case k => k_is)
    case h_law_is_grid => (refine' Nf.def_mk KX G ?a ?l ?c ?k (fun _ _ _ _ _ _ us hl => match us, hl with | [_, _], _ => rfl)); (case a => k_is); (case l => k_is); (case c => k_is); (case k => k_is)
    case h_law_null_due => (refine' Nf.def_mk KX G ?a ?l ?c ?k (fun _ _ _ _ _ _ us hl => match us, hl with | [_, _, _], _ => rfl)); (case a => k_is); (case l => k_is); (case c => k_is); (case k => k_is)
    case h_law_is => (refine' Nf.def_mk KX G ?a ?l ?c ?k (fun _ _ _ _ _ _ us hl => match us, hl with | [_, _], _ => rfl)); (case a => k_is); (case l => k_is); (case c => k_is); (case k => k_is)
    case h_law_net => (refine' Nf.def_mk KX G ?a ?l ?c ?k (fun _ _ _ _ _ _ us hl => match us, hl with | [_, _, _, _], _ => rfl)); (case a => k_is); (case l => k_is); (case c => k_is); (case k => k_is)
    case h_law_wide => (refine' Nf.def_mk KX G ?a ?l ?c ?k (fun _ _ _ _ _ _ us hl => match us, hl with | [_, _, _, _], _ => rfl)); (case a => k_is); (case l => k_is); (case c => k_is); (case k => k_is)
    case h_law_least => (refine' Nf.def_mk KX G ?a ?l ?c ?k (fun _ _ _ _ _ _ us hl => match us, hl with | [_, _], _ => rfl)); (case a => k_is); (case l => k_is); (case c => k_is); (case k => k_is)
    case h_law_both => (refine' Nf.def_mk KX G ?a ?l ?c ?k (fun _ _ _ _ _ _ us hl => match us, hl with | [_, _], _ => rfl)); (case a => k_is); (case l => k_is); (case c => k_is); (case k => k_is)
    case h_law_paper_right => (refine' Nf.def_mk KX G ?a ?l ?c ?k (fun _ _ _ _ _ _ us hl => match us, hl with | [_, _, _, _], _ => rfl)); (case a => k_is); (case l => k_is); (case c => k_is); (case k => k_is)
    case h_law => (refine' Nf.def_mk KX G ?a ?l ?c ?k (fun _ _ _ _ _ _ us hl => match us, hl with | [_], _ => rfl)); (case a => k_is); (case l => k_is); (case c => k_is); (case k => k_is)
    (case z_abs => k_is)
    (case z_len => k_is)
    (case z_reversed => k_is)
    (case z_range => k_is)
    (case z_max => k_is)
    (case z_min => k_is)
    (case z_tuple => k_is)
    (case z_isinstance => k_is)
    (case z_all => k_is)
    (case z_any => k_is)
    (case z_list => k_is)
    (case z_enumerate => k_is)
    (case z_zip => k_is)
    (case z_int => k_is)
    (case z_repr => k_is)
    (case z_bool => k_is)
    (case z_str => k_is)
    case h_MOST => (refine' Nf.int_mk KX G ?a); (case a => k_is)
    case h_X => (refine' Nf.glob_X KX G ?a ?l1 ?l2 ?l3); (case a => k_is); (case l1 => k_is); (case l2 => k_is); (case l3 => k_is)
    case h_Y => (refine' Nf.glob_Y KX G ?a ?l1 ?l2); (case a => k_is); (case l1 => k_is); (case l2 => k_is)

