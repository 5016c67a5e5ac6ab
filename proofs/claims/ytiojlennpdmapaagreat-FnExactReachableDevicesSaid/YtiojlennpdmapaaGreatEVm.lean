/-
  THE EVALUATOR's KIT, thirteenth part: operations that make memory. Plain theorems over any program; the conditions stand in each.
-/
import Derived.Test.YtiojlennpdmapaaGreatEVl
set_option linter.unusedVariables false
set_option linter.unusedSimpArgs false
namespace Go.EV
open Go.RowKit Go.VK
variable {U : Uni} {Y : Lay U} {TI : List (Nat × TInfo)} {P : Program} {g : GI} {E : Env g}

/-- The layout's kinds. -/
def kdL : Lf U → Option Kd
  | .int k _ => some (.int k)
  | .bool _ => some .bool
  | .str _ => some .str
  | .sl τ _ => some (.sl τ)
  | _ => none
structure LayOk (Y : Lay U) : Prop where
  kds : ∀ (τ : Nat) (x : U.El τ), (Y.C.cel τ x).map kdL = (Y.kd τ).map some
  pos : ∀ (τ τ' : Nat), Kd.sl τ' ∈ Y.kd τ → 0 < U.K τ'

section
variable {s : St U} {a : Act} {w : World} {β : List Tr} {α : Type}

/-- What an operation does that may make or write memory: its value, the state behind it; e: nothing that was there has turned. -/
def SO (P : Program) (C : Cod U) (E : Env g) (a : Act) (w : World) (o : Oper) (x : Sv U) (s' : St U) (e : Bool) : Prop :=
  ∀ (K : Act → World → Prop) (Q : Exit → Act → World → Prop), (∀ v w' β', Rel C E s' a w' β' → (o.dst ≠ none → x.mean C w' (E.X β') β' s'.m v) → (e = true → Ext w w') → K (a.put o.dst v) w') → o.wp P a w K Q

theorem SO.of_mo (r : Rel Y.C E s a w β) {o : Oper} {x : Sv U} (h : MO P Y.C E s a w β o.op x) : SO P Y.C E a w o x s true := fun K Q hK => by
  obtain ⟨v, h1, h2⟩ := h o rfl
  exact wpo (.inl (h1 w (Ext.refl w))) (hK v w β r (fun _ => h2) (fun _ => Ext.refl w))
theorem SO.soft {o : Oper} {x : Sv U} {s' : St U} {e : Bool} {C : Cod U} (h : SO P C E a w o x s' e) : SO P C E a w o x s' false := fun K Q hK => h K Q fun v w' β' h1 h2 _ => hK v w' β' h1 h2 (fun h => by cases h)

theorem heap_new (w : World) (cs : Array Value) (T : Nat) : (w.alloc (.cells cs T)).heap[w.heap.size]? = some (.cells cs T (0, 0)) := by simpa using heap_alloc_new w _

/-- A box comes to be. -/
theorem Rel.newBox (r : Rel Y.C E s a w β) {T : Nat} {vs : Array Value} {cs : List (Lf U)} (hM : Ms Y.C w (E.X β) β s.m vs.toList cs) :
    ∃ β', Rel Y.C E (psh s (.box T cs (cs.map fun _ => s.m.k))) a (w.alloc (.cells vs T)) β' ∧ (Lf.box (len s.m.o) 0 : Lf U).mean Y.C (w.alloc (.cells vs T)) (E.X β') β' (psh s (.box T cs (cs.map fun _ => s.m.k))).m (.pointer (some ⟨w.heap.size, 0, none⟩)) := by
  have he : Ext w (w.alloc (.cells vs T)) := Ext.alloc _ _
  have r' := r.add he [(⟨.box T cs (cs.map fun _ => s.m.k), s.m.k, s.m.k⟩, ⟨some w.heap.size, 0, 0, []⟩)] (by simp) (by simp [Tr.all]) (by simp [Tr.all]) (fun hev x hx => by
    simp at hx; subst hx
    exact ⟨by simp, w.heap.size, vs.toList, rfl, rfl, by simpa using heap_new w vs T, hM.go hev⟩)
  refine ⟨_, r', rfl, ⟨.box T cs (cs.map fun _ => s.m.k), s.m.k, s.m.k⟩, ⟨some w.heap.size, 0, 0, []⟩, ?_, ?_, fun _ => ⟨_, rfl, rfl⟩⟩
  · simp [psh, len_eq]
  · rw [List.getElem?_append_right (by rw [r.hp.len, len_eq]; exact Nat.le_refl _), r.hp.len, len_eq]; simp
theorem box_sound (r : Rel Y.C E s a w β) {o : Oper} {T : TypeId} {x : Operand} (ho : o.op = .box T x) {cs : List (Lf U)} (hp : parts (opr s x) = some cs) (h1 : allO cs = true) :
    SO P Y.C E a w o (.l (.box (len s.m.o) 0)) (psh s (.box T cs (cs.map fun _ => s.m.k))) true := fun K Q hK => by
  have hM := (parts_mean (opr_mean r (x := x)) hp h1).1
  obtain ⟨β', r1, r2⟩ := r.newBox (T := T) hM
  refine wpo (w' := w.alloc (.cells (a.eval x).cells T)) (v := .pointer (some ⟨w.heap.size, 0, none⟩)) (.inl ?_) (hK _ _ β' r1 (fun _ => r2) (fun _ => Ext.alloc _ _))
  simp [execOp, ho, Instr.box, newVar, newRow]
theorem alloc_sound (hTI : tiOk P TI = true) (r : Rel Y.C E s a w β) {o : Oper} {T : TypeId} {i : TInfo} (ho : o.op = .alloc T) (hf : fnd TI T = some i) :
    SO P Y.C E a w o (.l (.box (len s.m.o) 0)) (psh s (.box T (i.z.map Kz.lf) (i.z.map fun _ => s.m.k))) true := fun K Q hK => by
  obtain ⟨j, z, k3, k4, k5⟩ := ti_zero (tiOk_at hTI hf)
  have hM : Ms Y.C w (E.X β) β s.m z.cells.toList (i.z.map Kz.lf) := kzs_mean k5
  obtain ⟨β', r1, r2⟩ := r.newBox (T := T) hM
  have e : ((i.z.map (Kz.lf : Kz → Lf U)).map fun _ => s.m.k) = i.z.map fun _ => s.m.k := by simp
  rw [e] at r1 r2
  refine wpo (w' := w.alloc (.cells z.cells T)) (v := .pointer (some ⟨w.heap.size, 0, none⟩)) (.inl ?_) (hK _ _ β' r1 (fun _ => r2) (fun _ => Ext.alloc _ _))
  simp [execOp, ho, Instr.alloc, zeroValue, typeInfo, k3, k4, newVar, newRow]

/-- A tree comes to be, of data that name no object. -/
theorem Rel.newTree (r : Rel Y.C E s a w β) {τ n : Nat} {cells : Array Value} {l : List (U.El τ)} {d : Bool} (hk : 0 < U.K τ) (hn : l.length = n) (hm : n ≤ maxLen) (hsz : cells.size = n * U.K τ)
    (hO : OwL Y.C w (E.X β) d cells.toList (l.map (Y.C.cel τ)).flatten []) :
    ∃ β', Rel Y.C E (psh s (.tree τ d l)) a (w.alloc (.cells cells τ)) β' ∧ (Lf.own (len s.m.o) s.m.k : Lf U).mean Y.C (w.alloc (.cells cells τ)) (E.X β') β' (psh s (.tree τ d l)).m (.slice (some ⟨w.heap.size, 0, none⟩) n n) := by
  have he : Ext w (w.alloc (.cells cells τ)) := Ext.alloc _ _
  have r' := r.add he [(⟨.tree τ d l, s.m.k, s.m.k⟩, ⟨some w.heap.size, n, n, []⟩)] (by simp) (by simp [Tr.all]) (by simp [Tr.all]) (fun hev x hx => by
    simp at hx; subst hx
    refine ⟨hk, cells.toList, ?_, hO.conv hev.sz hev.hX hev.hc (by simp)⟩
    rw [hn]; exact World.ownsRow_lit w cells n (Nat.zero_le _) hm hsz)
  refine ⟨_, r', ⟨Nat.le_refl _, rfl⟩, ⟨.tree τ d l, s.m.k, s.m.k⟩, ⟨some w.heap.size, n, n, []⟩, ?_, ?_, fun _ => rfl⟩
  · simp [psh, len_eq]
  · rw [List.getElem?_append_right (by rw [r.hp.len, len_eq]; exact Nat.le_refl _), r.hp.len, len_eq]; simp

theorem OwL.flatten {C : Cod U} {X : Nat → Prop} {d : Bool} : ∀ {vss : List (List Value)} {xss : List (List (Lf U))}, vss.length = xss.length → (∀ (i : Nat) (vs : List Value) (xs : List (Lf U)), vss[i]? = some vs → xss[i]? = some xs → OwL C w X d vs xs []) → OwL C w X d vss.flatten xss.flatten []
  | [], [], _, _ => .n
  | [], _ :: _, h, _ => by simp at h
  | _ :: _, [], h, _ => by simp at h
  | vs :: vss, xs :: xss, h, h1 => by
    have := OwL.app (h1 0 vs xs rfl rfl) (OwL.flatten (vss := vss) (xss := xss) (by simpa using h) fun i vs xs a b => h1 (i + 1) vs xs (by simpa using a) (by simpa using b))
    simpa using this

/-- The zero's cells, as what is put into a tree. -/
theorem rds_zero (hY : LayOk Y) (r : Rel Y.C E s a w β) {e : Nat} : ∀ {ks : List Kd} {zs : List Kz} {ds : List (Lf U)} {vs : List Value}, rds s.m ks (zs.map Kz.lf) = some ds → kzsB vs zs = true → (∀ τ', Kd.sl τ' ∈ ks → 0 < U.K τ') → OwL Y.C w (E.X β) true vs ds []
  | [], [], ds, [], h, _, _ => by simp only [List.map_nil, rds, Option.some.injEq] at h; subst h; exact .n
  | [], _ :: _, _, _, h, _, _ => by cases h
  | _ :: _, [], _, _, h, _, _ => by cases h
  | _, [], _, _ :: _, _, h, _ => by cases h
  | _, _ :: _, _, [], _, h, _ => by cases h
  | kd :: ks, z :: zs, ds, v :: vs, h, hz, hp => by
    simp only [List.map_cons, rds] at h
    simp only [kzsB, Bool.and_eq_true] at hz
    cases h1 : rdn s.m kd (z.lf : Lf U) with
    | none => simp [h1] at h
    | some y =>
      cases h2 : rds s.m ks (zs.map (Kz.lf : Kz → Lf U)) with
      | none => simp [h1, h2] at h
      | some ys =>
        simp only [h1, h2, Option.some.injEq] at h
        subst h
        have hm : (z.lf : Lf U).mean Y.C w (E.X β) β s.m v := kz_mean hz.1
        have ho : Ow Y.C w (E.X β) true v y [] := by
          cases z with
          | int k => simp only [Kz.lf, rdn, rdl, Option.some.injEq] at h1; subst h1; obtain ⟨rfl, q1, q2⟩ := hm; exact .int q1 q2
          | bool => simp only [Kz.lf, rdn, rdl, Option.some.injEq] at h1; subst h1; obtain rfl := hm; exact .bool
          | str => simp only [Kz.lf, rdn, rdl, Option.some.injEq] at h1; subst h1; obtain ⟨rfl, q1⟩ := hm; exact .str q1
          | nil =>
            obtain rfl := hm
            cases kd with
            | sl τ =>
              simp only [Kz.lf, rdn, Option.some.injEq] at h1; subst h1
              exact .sl noTr (hp τ (by simp)) (World.ownsRow_nil w 0 τ (U.K τ)) .n
            | _ => cases h1
        have := OwL.c ho (rds_zero hY r (e := e) h2 hz.2 (fun τ' hh => hp τ' (by simp [hh])))
        simpa using this

theorem sameOp_eq {x y : Operand} (h : sameOp x y = true) : x = y := by
  cases x <;> cases y <;> simp only [sameOp] at h
  · rw [Nat.eq_of_beq_eq_true h]
  all_goals first | cases h | skip
  rename_i v u
  split at h <;> simp_all
theorem make_sound (hTI : tiOk P TI = true) (hY : LayOk Y) (r : Rel Y.C E s a w β) {o : Oper} {t : TypeId} {x y : Operand} {e ek eb k : Nat} {zz : List Kz} {i : TInfo} {n : Int} {ds : List (Lf U)} {z : U.El e} (ho : o.op = .makeSlice t x y)
    (h1 : fnd TI t = some ⟨.sl e ek eb, k, zz⟩) (h2 : fnd TI e = some i) (h3 : opd s x = .l (.int .i64 n)) (h4 : sameOp x y = true) (h5 : Nat.ble eb 2048 = true) (h6 : okE (U := U) e ek e = true) (h7 : rds s.m (Y.kd e) (i.z.map Kz.lf) = some ds) (h8 : Y.C.bld e ds = some z) (hg : mkOk n) :
    SO P Y.C E a w o (.l (.own (len s.m.o) s.m.k)) (psh s (.tree e true (List.replicate n.toNat z))) true := fun K Q hK => by
  have hsl := (ti_sl (tiOk_at hTI h1) rfl).1
  obtain ⟨hu', ii, zv, hii, hz', hik, hib, hzk, hk0⟩ := slB_spec hsl
  obtain ⟨j, zc, k3, k4, k5⟩ := ti_zero (tiOk_at hTI h2)
  rw [hii] at k3; injection k3 with k3; subst k3
  rw [hz'] at k4; injection k4 with k4; subst k4
  simp only [okE, Bool.and_eq_true] at h6
  have hKe : U.K e = ek := Nat.eq_of_beq_eq_true h6.2
  have hb' : eb ≤ 2048 := Nat.le_of_ble_eq_true h5
  have hnn : ((n.toNat : Nat) : Int) = n := Int.toNat_of_nonneg hg.1
  have hN : n.toNat ≤ 68719476736 := by have := hg.2; omega
  have hb : (ii.bytes : Int) * n ≤ 281474976710656 := by
    have h : ((ii.bytes * n.toNat : Nat) : Int) ≤ 281474976710656 := by
      rw [hib]
      have : eb * n.toNat ≤ 2048 * 68719476736 := Nat.mul_le_mul hb' hN
      omega
    rw [Int.natCast_mul, hnn] at h; exact h
  have hxv : a.eval x = .int .i64 n := (sv_l r h3).1
  have hyv : a.eval y = .int .i64 n := by rw [← sameOp_eq h4]; exact hxv
  have hrun := run_make (P := P) w t e ii zv hu' hii hz' .i64 .i64 n n hg.1 (Int.le_refl _) hb (by have := hg.2; omega)
  rw [hik, ← hKe] at hrun
  have hO : OwL Y.C w (E.X β) true zv.cells.toList (Y.C.cel e z) [] := by
    have := rds_zero hY r (e := e) h7 k5 (fun τ' hh => hY.pos e τ' hh)
    rw [Y.C.hmk e ds z h8] at this; exact this
  have hcells : (madeCells zv.cells (n.toNat * U.K e)).toList = (List.replicate n.toNat zv.cells.toList).flatten := by
    apply List.ext_getElem?
    intro q
    have hKz : zv.cells.size = U.K e := by rw [hzk, hKe]
    have hkp : 0 < U.K e := by rw [hKe]; exact hk0
    by_cases hq : q < n.toNat * U.K e
    · obtain ⟨q0, q1, hq1, rfl⟩ : ∃ q0 q1, q1 < U.K e ∧ q = q0 * U.K e + q1 := ⟨q / U.K e, q % U.K e, Nat.mod_lt _ hkp, by rw [Nat.mul_comm]; exact (Nat.div_add_mod q _).symm⟩
      have hdiv : q0 < n.toNat := Nat.lt_of_mul_lt_mul_right (Nat.lt_of_le_of_lt (Nat.le_add_right _ _) hq)
      obtain ⟨l1, l2, _, _, f3, f4⟩ := flat_at (f := fun (_ : Unit) => zv.cells.toList) (k := U.K e) (fun _ => by simp [hKz]) (l := List.replicate n.toNat ()) (i := q0) (x := ()) (by rw [List.getElem?_replicate, if_pos hdiv])
      have em : ((List.replicate n.toNat ()).map fun (_ : Unit) => zv.cells.toList) = List.replicate n.toNat zv.cells.toList := by simp
      rw [em] at f3
      have hR : (List.replicate n.toNat zv.cells.toList).flatten[q0 * U.K e + q1]? = zv.cells.toList[q1]? := by
        rw [f3, ← f4, List.getElem?_append_right (Nat.le_add_right _ _), Nat.add_sub_cancel_left, List.getElem?_append_left (by simp [hKz]; exact hq1)]
      rw [hR]
      have hm : (q0 * U.K e + q1) % U.K e = q1 := by rw [Nat.mul_comm, Nat.mul_add_mod]; exact Nat.mod_eq_of_lt hq1
      simp only [madeCells, Array.toList_map, List.getElem?_map, Array.toList_range, List.getElem?_range hq, Option.map_some, hKz, hm]
      rw [getElem!_pos zv.cells q1 (by rw [hKz]; exact hq1)]
      simp [hKz, hq1]
    · rw [List.getElem?_eq_none (by simp [size_madeCells]; omega), List.getElem?_eq_none (by simp [hKz]; omega)]
  obtain ⟨β', r1, r2⟩ := r.newTree (τ := e) (n := n.toNat) (cells := madeCells zv.cells (n.toNat * U.K e)) (l := List.replicate n.toNat z) (d := true) (by rw [hKe]; exact hk0) (by simp) (by unfold maxLen; omega) (size_madeCells _ _) (by
    rw [hcells, List.map_replicate]
    exact OwL.flatten (by simp) fun i vs xs q1 q2 => by
      rw [List.getElem?_replicate] at q1 q2
      split at q1
      · rw [if_pos ‹_›] at q2
        injection q1 with q1; injection q2 with q2; subst q1; subst q2; exact hO
      · cases q1)
  refine wpo (w' := w.alloc (.cells (madeCells zv.cells (n.toNat * U.K e)) e)) (v := .slice (some ⟨w.heap.size, 0, none⟩) n.toNat n.toNat) (.inl ?_) (hK _ _ β' r1 (fun _ => r2) (fun _ => Ext.alloc _ _))
  simp only [execOp, ho, hxv, hyv, Sem.run_bind, hrun, Result.andThen_ok, Sem.run_pure]
end
end Go.EV
