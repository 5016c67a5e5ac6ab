/-
  THE VALUE KIT, fifteenth part: plain laws of the models' words: loops over lists by recursion on the list. No program in sight; no condition.
-/
import Derived.Test.YtancgejlilbjnaaGreatDoorVKr
import Derived.Lib.Split
set_option linter.unusedVariables false
set_option linter.unusedSimpArgs false
namespace Go.VK
section
variable {α β σ τ : Type}
@[simp] theorem bd_s {a : α} {f : α → Option β} : bd (some a) f = f a := rfl
@[simp] theorem bd_n {f : α → Option β} : bd none f = none := rfl
@[simp] theorem nx_l {a : α} {f : β → Option α} : nx (some (.inl a)) f = some a := rfl
@[simp] theorem nx_r {b : β} {f : β → Option α} : nx (some (.inr b)) f = f b := rfl
@[simp] theorem nx_n {f : β → Option α} : nx none f = none := rfl
theorem gd_t {c : Prop} [Decidable c] {x : Option α} (h : c) : gd c x = x := if_pos h
@[simp] theorem gd_T {x : Option α} : gd True x = x := rfl
theorem bd_bif {b : Bool} {x y : Option α} {f : α → Option β} : bd (bif b then x else y) f = bif b then bd x f else bd y f := by cases b <;> rfl
@[simp] theorem bd_bb {b : Bool} {x y : α} {f : α → Option β} : bd (bif b then some x else some y) f = f (bif b then x else y) := by cases b <;> rfl
@[simp] theorem bif_and {a b : Bool} : (bif a then b else false) = (a && b) := by cases a <;> rfl
@[simp] theorem bif_or {a b : Bool} : (bif a then true else b) = (a || b) := by cases a <;> rfl
@[simp] theorem bif_some {a : Bool} {x y : α} : (bif a then some x else some y) = some (bif a then x else y) := by cases a <;> rfl
theorem bd_id {x : Option α} : bd x (fun a => some a) = x := by cases x <;> rfl
theorem atq_nat {l : List α} {i : Nat} (h : i < l.length) : atq l (i : Int) = some l[i] := by
  unfold atq; rw [if_pos (Int.natCast_nonneg _), Int.toNat_natCast, List.getElem?_eq_getElem h]
theorem atq_int {l : List α} {i : Int} (h0 : 0 ≤ i) (h : i.toNat < l.length) : atq l i = some l[i.toNat] := by
  unfold atq; rw [if_pos h0, List.getElem?_eq_getElem h]

/-- A loop over a list that counts its index up. -/
def runL (step : Nat → α → Option τ → Option τ) (fin : Option τ) : Nat → List α → Option τ
  | _, [] => fin
  | i, x :: xs => step i x (runL step fin (i + 1) xs)
theorem loopL {l : List α} {m : Nat → Nat → Option τ} {step : Nat → α → Option τ → Option τ} {fin : Option τ}
    (h1 : ∀ f i (h : i < l.length), m (f + 1) i = step i l[i] (m f (i + 1))) (h2 : ∀ f i, ¬ i < l.length → m (f + 1) i = fin) :
    ∀ (k i f : Nat), i + k = l.length → k < f → m f i = runL step fin i (l.drop i)
  | 0, i, f + 1, hk, hf => by rw [h2 f i (by omega), List.drop_of_length_le (by omega)]; rfl
  | k + 1, i, f + 1, hk, hf => by
    have hi : i < l.length := by omega
    rw [h1 f i hi, loopL h1 h2 k (i + 1) f (by omega) (by omega), List.drop_eq_getElem_cons hi]; rfl
theorem loop0 (l : List α) (m : Nat → Nat → Option τ) {f : Nat} (step : Nat → α → Option τ → Option τ) (fin : Option τ) (hf : l.length < f)
    (h1 : ∀ f i (h : i < l.length), m (f + 1) i = step i l[i] (m f (i + 1))) (h2 : ∀ f i, ¬ i < l.length → m (f + 1) i = fin) : m f 0 = runL step fin 0 l := by
  have := loopL h1 h2 l.length 0 f (by omega) hf
  simpa using this
theorem runL_any {p : α → Bool} {a b : τ} : ∀ {i : Nat} {l : List α}, runL (fun _ x r => bif p x then some a else r) (some b) i l = some (bif l.any p then a else b)
  | i, [] => rfl
  | i, x :: xs => by
    simp only [runL, List.any_cons]
    cases p x with
    | true => simp
    | false => simpa using runL_any
/-- The first place at which p holds, counted from i; -1 if there is none. -/
def findP (p : α → Bool) : Nat → List α → Int
  | _, [] => -1
  | i, x :: xs => bif p x then (i : Int) else findP p (i + 1) xs
theorem runL_find {p : α → Bool} : ∀ {i : Nat} {l : List α}, nx (runL (τ := Int ⊕ Unit) (fun i x r => bif p x then some (.inl (i : Int)) else r) (some (.inr ())) i l) (fun _ => some (-1 : Int)) = some (findP p i l)
  | i, [] => rfl
  | i, x :: xs => by
    simp only [runL, findP]
    cases p x with
    | true => rfl
    | false => exact runL_find
theorem findP_lt {p : α → Bool} : ∀ {i : Nat} {l : List α}, 0 ≤ findP p i l → (i : Int) ≤ findP p i l ∧ findP p i l < i + l.length
  | i, [], h => by simp [findP] at h
  | i, x :: xs, h => by
    simp only [findP] at h ⊢
    cases hp : p x with
    | true => simp; omega
    | false =>
      rw [hp] at h
      have := findP_lt (i := i + 1) (l := xs) (by simpa using h)
      simp only [List.length_cons, cond_false]
      omega
theorem loopAny (l : List α) (m : Nat → Nat → Option τ) {f : Nat} (p : α → Bool) (a b : τ) (hf : l.length < f)
    (h1 : ∀ f i (h : i < l.length), m (f + 1) i = bif p l[i] then some a else m f (i + 1)) (h2 : ∀ f i, ¬ i < l.length → m (f + 1) i = some b) : m f 0 = some (bif l.any p then a else b) := by
  rw [loop0 l m (fun _ x r => bif p x then some a else r) (some b) hf h1 h2, runL_any]
/-- Does p hold of some element, by its place counted from i? -/
def anyI (p : Nat → α → Bool) : Nat → List α → Bool
  | _, [] => false
  | i, x :: xs => p i x || anyI p (i + 1) xs
theorem runL_anyI {p : Nat → α → Bool} {a b : τ} : ∀ {i : Nat} {l : List α}, runL (fun i x r => bif p i x then some a else r) (some b) i l = some (bif anyI p i l then a else b)
  | i, [] => rfl
  | i, x :: xs => by
    simp only [runL, anyI]
    cases p i x with
    | true => simp
    | false => simpa using runL_anyI
theorem loopAnyI (l : List α) (m : Nat → Nat → Option τ) {f : Nat} (p : Nat → α → Bool) (a b : τ) (hf : l.length < f)
    (h1 : ∀ f i (h : i < l.length), m (f + 1) i = bif p i l[i] then some a else m f (i + 1)) (h2 : ∀ f i, ¬ i < l.length → m (f + 1) i = some b) : m f 0 = some (bif anyI p 0 l then a else b) := by
  rw [loop0 l m (fun i x r => bif p i x then some a else r) (some b) hf h1 h2, runL_anyI]
theorem loopFind (l : List α) (m : Nat → Nat → Option (Int ⊕ Unit)) {f : Nat} (p : α → Bool) (hf : l.length < f)
    (h1 : ∀ f i (h : i < l.length), m (f + 1) i = bif p l[i] then some (.inl (i : Int)) else m f (i + 1)) (h2 : ∀ f i, ¬ i < l.length → m (f + 1) i = some (.inr ())) : nx (m f 0) (fun _ => some (-1 : Int)) = some (findP p 0 l) := by
  rw [loop0 l m (fun i x r => bif p x then some (.inl (i : Int)) else r) (some (.inr ())) hf h1 h2, runL_find]
/-- A loop over a list that bears a state. -/
def runS (step : Nat → σ → α → (σ → Option τ) → Option τ) (fin : σ → Option τ) : Nat → σ → List α → Option τ
  | _, s, [] => fin s
  | i, s, x :: xs => step i s x fun s' => runS step fin (i + 1) s' xs
theorem loopS {l : List α} {m : Nat → Nat → σ → Option τ} {step : Nat → σ → α → (σ → Option τ) → Option τ} {fin : σ → Option τ}
    (h1 : ∀ f i s (h : i < l.length), m (f + 1) i s = step i s l[i] (fun s' => m f (i + 1) s')) (h2 : ∀ f i s, ¬ i < l.length → m (f + 1) i s = fin s) :
    ∀ (k i f : Nat) (s : σ), i + k = l.length → k < f → m f i s = runS step fin i s (l.drop i)
  | 0, i, f + 1, s, hk, hf => by rw [h2 f i s (by omega), List.drop_of_length_le (by omega)]; rfl
  | k + 1, i, f + 1, s, hk, hf => by
    have hi : i < l.length := by omega
    rw [h1 f i s hi, List.drop_eq_getElem_cons hi]
    have : (fun s' => m f (i + 1) s') = fun s' => runS step fin (i + 1) s' (l.drop (i + 1)) := funext fun s' => loopS h1 h2 k (i + 1) f s' (by omega) (by omega)
    rw [this]; rfl
theorem loopS0 (l : List α) (m : Nat → Nat → σ → Option τ) {f : Nat} {s : σ} (step : Nat → σ → α → (σ → Option τ) → Option τ) (fin : σ → Option τ) (hf : l.length < f)
    (h1 : ∀ f i s (h : i < l.length), m (f + 1) i s = step i s l[i] (fun s' => m f (i + 1) s')) (h2 : ∀ f i s, ¬ i < l.length → m (f + 1) i s = fin s) : m f 0 s = runS step fin 0 s l := by
  have := loopS h1 h2 l.length 0 f s (by omega) hf
  simpa using this
theorem runS_fold {g : σ → α → σ} {fin : σ → Option τ} : ∀ {i : Nat} {s : σ} {l : List α}, runS (fun _ s x k => k (g s x)) fin i s l = fin (l.foldl g s)
  | i, s, [] => rfl
  | i, s, x :: xs => by simp only [runS, List.foldl_cons]; exact runS_fold
theorem runS_inv {P : σ → α → Option σ} {g : σ → α → σ} {fin : σ → Option τ} {I : Nat → σ → Prop} {n : Nat} (hP : ∀ i s x, i < n → I i s → P s x = some (g s x)) (hI : ∀ i s x, i < n → I i s → I (i + 1) (g s x)) :
    ∀ (l : List α) (i : Nat) (s : σ), i + l.length ≤ n → I i s → runS (fun _ s x k => bd (P s x) k) fin i s l = fin (l.foldl g s)
  | [], i, s, _, _ => rfl
  | x :: xs, i, s, hl, h0 => by
    have hi : i < n := by simp at hl; omega
    simp only [runS, List.foldl_cons]
    rw [hP i s x hi h0]
    exact runS_inv hP hI xs (i + 1) (g s x) (by simp at hl; omega) (hI i s x hi h0)
theorem loopB (l : List α) (m : Nat → Nat → σ → Option τ) {f : Nat} {s : σ} (P : σ → α → Option σ) (g : σ → α → σ) (fin : σ → Option τ) (I : Nat → σ → Prop) (hf : l.length < f)
    (h1 : ∀ f i s (h : i < l.length), m (f + 1) i s = bd (P s l[i]) (fun s' => m f (i + 1) s')) (h2 : ∀ f i s, ¬ i < l.length → m (f + 1) i s = fin s)
    (hP : ∀ i s x, i < l.length → I i s → P s x = some (g s x)) (hI : ∀ i s x, i < l.length → I i s → I (i + 1) (g s x)) (h0 : I 0 s) : m f 0 s = fin (l.foldl g s) := by
  rw [loopS0 l m (fun _ s x k => bd (P s x) k) fin hf h1 h2]
  exact runS_inv hP hI l 0 s (by omega) h0
theorem foldl_filter {p : α → Bool} : ∀ {l : List α} {s : List α}, l.foldl (fun s x => bif p x then s ++ [x] else s) s = s ++ l.filter p
  | [], s => by simp
  | x :: xs, s => by
    simp only [List.foldl_cons, List.filter_cons]
    cases p x <;> simp [foldl_filter]
/-- Each round appends. -/
def catI (y : Nat → α → List β) : Nat → List α → List β
  | _, [] => []
  | i, x :: xs => y i x ++ catI y (i + 1) xs
theorem runS_app {y : Nat → α → List β} {fin : List β → Option τ} : ∀ {i : Nat} {s : List β} {l : List α}, s.length + (catI y i l).length ≤ 68719476736 → runS (fun i s x k => gd (apOk s (y i x)) (k (s ++ y i x))) fin i s l = fin (s ++ catI y i l)
  | i, s, [], _ => by simp [runS, catI]
  | i, s, x :: xs, h => by
    simp only [catI, List.length_append] at h
    simp only [runS, catI]
    rw [gd_t (by unfold apOk; omega), runS_app (by rw [List.length_append]; omega), List.append_assoc]
theorem catI_map {g : α → β} : ∀ {i : Nat} {l : List α}, catI (fun _ x => [g x]) i l = l.map g
  | i, [] => rfl
  | i, x :: xs => by simp [catI, catI_map]
end
def splitF (z sep : ByteArray) : List ByteArray := Lib.splitB sep 0 (Lib.countB z sep) z
/-! ### Many slots at once whose contents are given up -/
theorem VLs.x2 {ρ : List Nat} {so : List Ob} {u0 u1 : V} {xs ys : List V} (h : VLs ρ so xs ys) : VLs ρ so (u0 :: u1 :: xs) (.any :: .any :: ys) := .c .a (.c .a h)
theorem VLs.x4 {ρ : List Nat} {so : List Ob} {u0 u1 u2 u3 : V} {xs ys : List V} (h : VLs ρ so xs ys) : VLs ρ so (u0 :: u1 :: u2 :: u3 :: xs) (.any :: .any :: .any :: .any :: ys) := .x2 (.x2 h)
theorem VLs.x8 {ρ : List Nat} {so : List Ob} {u0 u1 u2 u3 u4 u5 u6 u7 : V} {xs ys : List V} (h : VLs ρ so xs ys) : VLs ρ so (u0 :: u1 :: u2 :: u3 :: u4 :: u5 :: u6 :: u7 :: xs) (.any :: .any :: .any :: .any :: .any :: .any :: .any :: .any :: ys) := .x4 (.x4 h)
theorem VLs.x16 {ρ : List Nat} {so : List Ob} {u0 u1 u2 u3 u4 u5 u6 u7 u8 u9 u10 u11 u12 u13 u14 u15 : V} {xs ys : List V} (h : VLs ρ so xs ys) : VLs ρ so (u0 :: u1 :: u2 :: u3 :: u4 :: u5 :: u6 :: u7 :: u8 :: u9 :: u10 :: u11 :: u12 :: u13 :: u14 :: u15 :: xs) (.any :: .any :: .any :: .any :: .any :: .any :: .any :: .any :: .any :: .any :: .any :: .any :: .any :: .any :: .any :: .any :: ys) := .x8 (.x8 h)
theorem VLs.x32 {ρ : List Nat} {so : List Ob} {u0 u1 u2 u3 u4 u5 u6 u7 u8 u9 u10 u11 u12 u13 u14 u15 u16 u17 u18 u19 u20 u21 u22 u23 u24 u25 u26 u27 u28 u29 u30 u31 : V} {xs ys : List V} (h : VLs ρ so xs ys) : VLs ρ so (u0 :: u1 :: u2 :: u3 :: u4 :: u5 :: u6 :: u7 :: u8 :: u9 :: u10 :: u11 :: u12 :: u13 :: u14 :: u15 :: u16 :: u17 :: u18 :: u19 :: u20 :: u21 :: u22 :: u23 :: u24 :: u25 :: u26 :: u27 :: u28 :: u29 :: u30 :: u31 :: xs) (.any :: .any :: .any :: .any :: .any :: .any :: .any :: .any :: .any :: .any :: .any :: .any :: .any :: .any :: .any :: .any :: .any :: .any :: .any :: .any :: .any :: .any :: .any :: .any :: .any :: .any :: .any :: .any :: .any :: .any :: .any :: .any :: ys) := .x16 (.x16 h)
end Go.VK
