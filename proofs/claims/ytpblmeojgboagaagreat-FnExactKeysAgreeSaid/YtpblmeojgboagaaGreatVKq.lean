/-
  THE VALUE KIT, thirteenth part: what the printed models go by: elements by number, slicing, min and max. Theorems over any program.
-/
import Derived.Test.YtpblmeojgboagaaGreatVKp
import Derived.Lib.ConvBytes
import Derived.Laws.AppendOwn
import Derived.Laws.StructEq
set_option linter.unusedVariables false
namespace Go.VK
open Go.RowKit

def GTriv : GI where
  G _ := True
  st _ _ _ _ := trivial
theorem eN {α : Type} [Inhabited α] {l : List α} {f : α → List V} {i : Nat} (h : i < l.length) : (l.map f)[((i : Nat) : Int).toNat]? = some (f (l.getD i default)) := by
  rw [Int.toNat_natCast, List.getElem?_map, List.getElem?_eq_getElem h]
  simp [List.getD, List.getElem?_eq_getElem h]
theorem eI {α : Type} [Inhabited α] {l : List α} {f : α → List V} {n : Int} (h : n.toNat < l.length) : (l.map f)[n.toNat]? = some (f (l.getD n.toNat default)) := by
  rw [List.getElem?_map, List.getElem?_eq_getElem h]
  simp [List.getD, List.getElem?_eq_getElem h]
variable {P : Program} {g : GI} {E : Env P g} {s : S}

/-! ### min, max -/
theorem mn2 {x y : Operand} {k : IntKind} {a b : Int} {ats : Array TypeId} (hx : Ev E s x (.int k a)) (hy : Ev E s y (.int k b)) : MOp E s (.call { callee := .builtin .min, args := #[x, y], argTypes := ats }) (.int k (if b < a then b else a)) := fun β c w rl op ho => by
  have h1 := (hx β c w rl).int_inv
  have h2 := (hy β c w rl).int_inv
  refine ⟨.int k (if b < a then b else a), fun w' _ => by simp [execOp, ho, resolve, invoke, builtin, h1.1, h2.1, Builtin.min_, Builtin.min2], ?_⟩
  split
  · exact .int h2.2.1 h2.2.2
  · exact .int h1.2.1 h1.2.2
theorem mx2 {x y : Operand} {k : IntKind} {a b : Int} {ats : Array TypeId} (hx : Ev E s x (.int k a)) (hy : Ev E s y (.int k b)) : MOp E s (.call { callee := .builtin .max, args := #[x, y], argTypes := ats }) (.int k (if b > a then b else a)) := fun β c w rl op ho => by
  have h1 := (hx β c w rl).int_inv
  have h2 := (hy β c w rl).int_inv
  refine ⟨.int k (if b > a then b else a), fun w' _ => by simp [execOp, ho, resolve, invoke, builtin, h1.1, h2.1, Builtin.max_, Builtin.max2], ?_⟩
  split
  · exact .int h2.2.1 h2.2.2
  · exact .int h1.2.1 h1.2.2

/-! ### A string's bytes -/
theorem s2b {x : Operand} {t u e d : Nat} {z : ByteArray} {t' : List V} (hs : P.underlying t = some .string) (hd : P.underlying u = some (.slice e)) (he : P.underlying e = some (.int .u8)) (hx : Ev E s x (.str z))
    (hu : Upd s.t d (.slice 1 (z.data.toList.map yV)) t') : SOp E s (.convert t u x) (some d) ⟨t', s.o⟩ true := fun β a w r o ho hdd => by
  obtain ⟨h1, h2⟩ := (hx β a w r).str_inv
  have hE : Ext w (Lib.bytesWorld w e z) := ⟨rfl, rfl, rfl, by rw [Lib.bytesWorld_size]; omega, fun b hb => Lib.bytesWorld_at_old w e z b hb⟩
  refine ⟨.slice (some ⟨w.heap.size, 0, none⟩) z.size (grownCap w z.size 0 e), Lib.bytesWorld w e z, β, .inl (by simp [execOp, ho, h1, Lib.run_convert_string_bytes (P := P) w t u e z hs hd he]), (r.extend hE).put ?_ hu, fun _ => hE⟩
  have hc := grownCap_le_maxLen w z.size 0 e h2
  have hg := grownCap_ge w z.size 0 e
  cases hz : z.data.toList with
  | nil =>
    have : z.size = 0 := by rw [size_toList, hz]; rfl
    rw [this] at hc ⊢
    exact .slice0 hc
  | cons b0 bs =>
    rw [← hz]
    have hlen : z.size = (z.data.toList.map yV).length := by rw [List.length_map, size_toList]
    have hget : ∀ (i j : Nat) (e' : List V) (d' : V), (z.data.toList.map yV)[i]? = some e' → e'[j]? = some d' → i < z.size ∧ j = 0 ∧ d' = .int .u8 ((z.data.toList.getD i 0).toNat : Int) := by
      intro i j e' d' h3 h4
      rw [List.getElem?_map] at h3
      obtain ⟨b, hb, rfl⟩ := Option.map_eq_some_iff.1 h3
      have hi : i < z.data.toList.length := (List.getElem?_eq_some_iff.1 hb).1
      cases j with
      | zero =>
        simp [yV] at h4
        refine ⟨by rw [size_toList]; exact hi, rfl, ?_⟩
        rw [← h4]; simp [List.getD, hb]
      | succ j => simp [yV] at h4
    refine .slice (val := fun i j => .int .u8 ((z.data.toList.getD i 0).toNat : Int)) hlen (by rw [← hlen, size_toList, hz]; simp) hg hc (fun hxx => by have := X_lt r _ hxx; simp at this) (by rw [Lib.bytesWorld_size]; simp)
      (fun e' he' => by obtain ⟨b, _, rfl⟩ := List.mem_map.1 he'; rfl) (fun i j e' d' h3 h4 => ?_) (fun i j e' d' h3 h4 => ?_)
    · obtain ⟨h5, rfl, rfl⟩ := hget i j e' d' h3 h4
      rw [add_flat, Nat.zero_add, Nat.mul_one, Nat.add_zero]
      exact Lib.bytesWorld_cell w e z i h5
    · obtain ⟨h5, rfl, rfl⟩ := hget i j e' d' h3 h4
      have hb := (z.data.toList.getD i 0).toNat_lt
      exact .int (Int.natCast_nonneg _) (show (((z.data.toList.getD i 0).toNat : Nat) : Int) ≤ 255 by omega)

def bytesI (z : ByteArray) : List Int := z.data.toList.map fun b => (b.toNat : Int)
theorem s2i {x : Operand} {t u e d : Nat} {z : ByteArray} {t' : List V} (hs : P.underlying t = some .string) (hd : P.underlying u = some (.slice e)) (he : P.underlying e = some (.int .u8)) (hx : Ev E s x (.str z))
    (hu : Upd s.t d (.slice 1 ((bytesI z).map y8)) t') : SOp E s (.convert t u x) (some d) ⟨t', s.o⟩ true := by
  refine s2b hs hd he hx ?_
  have : (bytesI z).map y8 = z.data.toList.map yV := by simp [bytesI, y8, yV]
  rwa [this] at hu

/-! ### Comparing structs -/
def V.val : V → Value
  | .int k n => .int k n
  | .bool b => .bool b
  | .str z => .string z
  | _ => undef
def V.isVal : V → Bool
  | .int .. | .bool _ | .str _ => true
  | _ => false
theorem rd_val {w : World} {X : Nat → Prop} {β : List Tr} {v : Value} {U : V} (h : Rd w X β v U) (hv : U.isVal = true) : v = U.val := by
  cases h <;> first | rfl | (simp [V.isVal] at hv)
theorem rd_vals {w : World} {X : Nat → Prop} {β : List Tr} {v : Value} {cs : List V} (h : Rd w X β v (.agg cs)) (hv : cs.all V.isVal = true) : v = .agg (cs.map V.val).toArray := by
  obtain ⟨vs, rfl, h2, h3⟩ := h.agg_inv
  congr 1
  apply Array.ext_getElem?
  intro i
  by_cases hi : i < cs.length
  · have h4 : vs[i]? = some (vs[i]'(by omega)) := Array.getElem?_eq_getElem _
    have h5 : cs[i]? = some cs[i] := List.getElem?_eq_getElem hi
    rw [h4, rd_val (h3 i _ _ h4 h5) (List.all_eq_true.1 hv _ (List.getElem_mem hi))]
    simp [h5]
  · rw [Array.getElem?_eq_none (by omega)]
    rw [List.getElem?_toArray, List.getElem?_eq_none (by simp; omega)]
theorem aeq {x y : Operand} {t u : TypeId} {cs ds : List V} {b : Bool} (hm : P.eqGuardType P.depth t = false) (hq : ∀ w, (Op.equalIn 10000 t (.agg (cs.map V.val).toArray) (.agg (ds.map V.val).toArray)).run P w = .ok b w)
    (hc : cs.all V.isVal = true) (hd : ds.all V.isVal = true) (hx : Ev E s x (.agg cs)) (hy : Ev E s y (.agg ds)) : MOp E s (.binOp .eql t x y u) (.bool b) := fun β a w r o ho => by
  have h1 := rd_vals (hx β a w r) hc
  have h2 := rd_vals (hy β a w r) hd
  exact ⟨_, fun w' _ => by simp only [execOp, ho, h1, h2, Sem.run_bind, run_eqGuard_agg _ _ _ _ _ _ _ hm, Result.andThen_ok, run_eql_struct, hq, Sem.run_pure], .bool⟩
theorem ane {x y : Operand} {t u : TypeId} {cs ds : List V} {b : Bool} (hm : P.eqGuardType P.depth t = false) (hq : ∀ w, (Op.equalIn 10000 t (.agg (cs.map V.val).toArray) (.agg (ds.map V.val).toArray)).run P w = .ok b w)
    (hc : cs.all V.isVal = true) (hd : ds.all V.isVal = true) (hx : Ev E s x (.agg cs)) (hy : Ev E s y (.agg ds)) : MOp E s (.binOp .neq t x y u) (.bool (!b)) := fun β a w r o ho => by
  have h1 := rd_vals (hx β a w r) hc
  have h2 := rd_vals (hy β a w r) hd
  exact ⟨_, fun w' _ => by simp only [execOp, ho, h1, h2, Sem.run_bind, run_eqGuard_agg _ _ _ _ _ _ _ hm, Result.andThen_ok, run_neq_struct, hq, Sem.run_pure], .bool⟩

theorem eqf_nil {d : Nat} {xs ys : Array Value} {w : World} : (Op.eqFields d xs ys []).run P w = .ok true w := rfl
theorem part_one {t off : Nat} {xs : Array Value} {a : Value} {w : World} (h1 : oneB P t = true) (ha : xs[off]? = some a) : (part t xs off).run P w = .ok a w := by
  have h2 := (oneB_isAgg (w := w) h1).1
  simp [part, h2, ha]
theorem eqf_cons {d : Nat} {xs ys : Array Value} {w : World} {f : Field} {fs : List Field} {a b : Value} {r q : Bool} (hn : (f.name != "_") = true) (h1 : oneB P f.type = true) (ha : xs[f.offset]? = some a) (hb : ys[f.offset]? = some b)
    (he : (Op.equalIn d f.type a b).run P w = .ok r w) (hq : (Op.eqFields d xs ys fs).run P w = .ok q w) : (Op.eqFields d xs ys (f :: fs)).run P w = .ok (r && q) w := by
  simp only [Op.eqFields]
  rw [if_pos (by simpa using hn)]
  simp only [Sem.run_bind, part_one h1 ha, part_one h1 hb, Result.andThen_ok, he]
  cases r with
  | false => simp
  | true => simpa using hq

/-! ### Reading the walk's own rows -/
theorem ldo1 {x : Operand} {t i T k j q off : Nat} {es : List (List V)} {e : List V} {U : V} (ht : oneB P t = true) (hi : At s.o i (.row T k es)) (hoff : off = j * k + q) (he : es[j]? = some e) (hq : e[q]? = some U) (h : Ev E s x (.oel i off)) : MOp E s (.load t x) U := fun β a w r o ho => by
  obtain ⟨tr, b, k1, k2, k3⟩ := (h β a w r).oel_inv
  obtain ⟨cap, cur, c1, c2, c3, c4, c5, c6, c7, c8⟩ := own_facts r hi k1 k2
  obtain ⟨v, h1, h2, h3⟩ := c8 j q e U he hq
  refine ⟨v, fun w' hw => ?_, h3.conv (Nat.le_refl _) (fun _ _ h => h) (fun _ _ _ h => h) (fun _ _ h => by simp at h)⟩
  have hc : w.cell? ⟨b, off, none⟩ = some v := by rw [cell_of_row w b off cur T (0, 0) c2, hoff]; exact h1
  have := hw.cell hc
  simp [execOp, ho, k3, Instr.loadAt, Instr.sureAddr, loadVar_one ht this]
theorem ldoA {x : Operand} {t n i T k j q off : Nat} {es : List (List V)} {e cs : List V} (ht : aggB P t n = true) (hi : At s.o i (.row T k es)) (hoff : off = j * k + q) (he : es[j]? = some e) (hl : cs.length = n) (hq : ∀ m, m < n → e[q + m]? = cs[m]?)
    (h : Ev E s x (.oel i off)) : MOp E s (.load t x) (.agg cs) := fun β a w r o ho => by
  obtain ⟨tr, b, k1, k2, k3⟩ := (h β a w r).oel_inv
  obtain ⟨cap, cur, c1, c2, c3, c4, c5, c6, c7, c8⟩ := own_facts r hi k1 k2
  have key : ∀ m d, cs[m]? = some d → ∃ v, cur[off + m]? = some v ∧ Rd w (E.X β) β v d := by
    intro m d hd
    have hm : m < n := by rw [← hl]; exact (List.getElem?_eq_some_iff.1 hd).1
    obtain ⟨v, h1, h2, h3⟩ := c8 j (q + m) e d he ((hq m hm).trans hd)
    refine ⟨v, ?_, h3.conv (Nat.le_refl _) (fun _ _ h => h) (fun _ _ _ h => h) (fun _ _ h => by simp at h)⟩
    rw [hoff, Nat.add_assoc]; exact h1
  have hlen : ((List.range n).map fun m => cur.getD (off + m) undef).length = n := by simp
  refine ⟨.agg ((List.range n).map fun m => cur.getD (off + m) undef).toArray, fun w' hw => ?_, .agg (by rw [List.size_toArray, hlen, hl]) (fun m v d hj hd => ?_)⟩
  · have := loadVar_agg (P := P) (w := w') (t := t) (vs := (List.range n).map fun m => cur.getD (off + m) undef) (by rw [hlen]; exact ht) (a := ⟨b, off, none⟩) (fun m v hj => by
      have hm : m < n := by have := (List.getElem?_eq_some_iff.1 hj).1; simpa using this
      obtain ⟨v', h1, _⟩ := key m cs[m] (List.getElem?_eq_getElem (by omega))
      have hv : v = v' := by
        simp [hm, Array.getD_eq_getD_getElem?, h1] at hj
        exact hj.symm
      subst hv
      rw [add_flat]
      exact hw.cell (by rw [cell_of_row w b (off + m) cur T (0, 0) c2]; exact h1))
    simp [execOp, ho, k3, Instr.loadAt, Instr.sureAddr, this]
  · have hm : m < n := by rw [← hl]; exact (List.getElem?_eq_some_iff.1 hd).1
    obtain ⟨v', h1, h2⟩ := key m d hd
    have hv : v = v' := by
      simp [hm, Array.getD_eq_getD_getElem?, h1] at hj
      exact hj.symm
    subst hv; exact h2

/-! ### A part of a slice -/
theorem slh {x y : Operand} {t e k b : Nat} {es : List (List V)} {kk : IntKind} {n : Int} (ht : slB P t e k b = true) (h0 : 0 ≤ n) (hn : n.toNat ≤ es.length) (hx : Ev E s x (.slice k es)) (hy : Ev E s y (.int kk n)) :
    MOp E s (.slice t x none (some y) none) (.slice k (es.take n.toNat)) := fun β a w rl op ho => by
  obtain ⟨hu, ii, z, hii, hz, hik, hib, hzk, hk0⟩ := slB_spec ht
  have h2 := (hy β a w rl).int_inv.1
  have hv := hx β a w rl
  generalize hval : a.eval x = v at hv
  have hrun : ∀ (A : Option Addr) (l c : Nat), v = .slice A l c → n.toNat ≤ c → ∀ w', (execOp a.eval op).run P w' = .ok (.value (.slice A n.toNat c)) w' := by
    rintro A l c rfl hc w'
    have e1 : (0 ≤ n ∧ n ≤ (c : Int)) := ⟨h0, by omega⟩
    have e2 : (A.map fun q : Addr => q.add 0) = A := by cases A with
      | none => rfl
      | some q => exact congrArg some (Addr.add_zero' q)
    simp [execOp, ho, hval, h2, Instr.sliceAt, Instr.slice, run_underlying hu, Instr.sliceBounds, Instr.sliceBound, asIntOf, e1, sizeOf, typeInfo, hii]
    exact fun _ => e2
  cases hv with
  | @slice0 _ A c _ h =>
    have : n.toNat = 0 := by simpa using hn
    refine ⟨_, fun w' _ => hrun A 0 c rfl (by omega) w', ?_⟩
    rw [this]; simpa using Rd.slice0 h
  | @slice _ A l c _ _ val hl hpos hc hm hXa hb hk hce hrd =>
    refine ⟨_, fun w' _ => hrun _ l c rfl (by omega) w', ?_⟩
    cases hnn : n.toNat with
    | zero => simpa using Rd.slice0 hm
    | succ q =>
      have hget : ∀ (i : Nat) (e' : List V), (es.take (q + 1))[i]? = some e' → es[i]? = some e' := by
        intro i e' h
        rw [List.getElem?_take] at h
        split at h
        · exact h
        · simp at h
      exact .slice (val := val) (by rw [List.length_take]; omega) (by rw [List.length_take]; omega) (by omega) hm hXa hb (fun e' he => hk e' (List.mem_of_mem_take he)) (fun i j e' d h1 h3 => hce i j e' d (hget i e' h1) h3) (fun i j e' d h1 h3 => hrd i j e' d (hget i e' h1) h3)
theorem slm {α : Type} {x y : Operand} {t e k b : Nat} {l : List α} {f : α → List V} {kk : IntKind} {n : Int} (ht : slB P t e k b = true) (h0 : 0 ≤ n) (hn : n.toNat ≤ (l.map f).length) (hx : Ev E s x (.slice k (l.map f))) (hy : Ev E s y (.int kk n)) :
    MOp E s (.slice t x none (some y) none) (.slice k ((l.take n.toNat).map f)) := by
  have := slh ht h0 hn hx hy
  rwa [← List.map_take] at this
/-- An element of a row under its model's name. -/
theorem eR {α : Type} [Inhabited α] {l : List α} {f : α → List V} {i : Nat} (h : i < l.length) : (l.map f)[i]? = some (f (l.getD i default)) := by
  rw [List.getElem?_map, List.getElem?_eq_getElem h]
  simp [List.getD, List.getElem?_eq_getElem h]
theorem eRo {es es' : List (List V)} {i : Nat} {c : List V} (h : es = es') (h1 : es'[i]? = some c) : es[i]? = some c := h ▸ h1
end Go.VK
