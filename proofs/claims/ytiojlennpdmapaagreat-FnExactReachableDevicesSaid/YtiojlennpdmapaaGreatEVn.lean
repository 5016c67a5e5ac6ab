/-
  THE EVALUATOR's KIT, fourteenth part: stores, slice literals. Plain theorems over any program; the conditions stand in each.
-/
import Derived.Test.YtiojlennpdmapaaGreatEVm
set_option linter.unusedVariables false
set_option linter.unusedSimpArgs false
namespace Go.EV
open Go.RowKit Go.VK
variable {U : Uni} {Y : Lay U} {TI : List (Nat × TInfo)} {P : Program} {g : GI} {E : Env g}
section
variable {s : St U} {a : Act} {w : World} {β : List Tr} {α : Type}

theorem ti_size {t : Nat} {i : TInfo} (h : tiB P t i = true) (w : World) : (sizeOf t).run P w = .ok i.k w := by
  cases hi : i.u with
  | int k => have := ti_int h hi; rw [this.2.2]; exact (oneB_isAgg this.2.1).2
  | bool => have := ti_bool h hi; rw [this.2.2]; exact (oneB_isAgg this.2.1).2
  | str => have := ti_str h hi; rw [this.2.2]; exact (oneB_isAgg this.2.1).2
  | sl e ek eb => have := ti_sl h hi; rw [this.2.2]; exact (oneB_isAgg this.2.1).2
  | st fs => exact (aggB_isAgg (ti_st h hi).1).2

theorem storeBox_sound (hTI : tiOk P TI = true) (r : Rel Y.C E s a w β) {o : Oper} {t : TypeId} {x y : Operand} {i : TInfo} {b off T rv cv : Nat} {cs ps : List (Lf U)} {us : List Nat} (ho : o.op = .store t x y)
    (h1 : fnd TI t = some i) (h2 : opd s x = .l (.box b off)) (h3 : parts (opr s y) = some ps) (h4 : s.m.o[b]? = some ⟨.box T cs us, rv, cv⟩) (h5 : ps.length = i.k) (h6 : off + i.k ≤ cs.length) (h7 : allO ps = true) :
    SO P Y.C E a w o (.l .any) (trn s b (.box T (spl cs off ps) (spl us off (ps.map fun _ => Nat.succ s.m.k))) rv) false := fun K Q hK => by
  have hti := tiOk_at hTI h1
  obtain ⟨hpm, hone⟩ := parts_mean (opr_mean r (x := y)) h3 h7
  have hxm := sv_l r h2
  obtain ⟨_, e', t', k1, k2, k3⟩ := hxm
  rw [h4] at k1; injection k1 with k1; subst k1
  obtain ⟨bb, k4, k5⟩ := k3 rfl
  have hok := r.hp.ok b t' _ k2 h4
  obtain ⟨q0, b', vs, q1, q2, q3, q4⟩ := hok
  rw [k4] at q1; injection q1 with q1; subst q1
  have hl : off + (a.eval y).cells.toList.length ≤ vs.length := by rw [hpm.1, h5, q4.1]; exact h6
  have hrun := store_run (P := P) (T := T) (t := t) (b := bb) (off := off) (cur := vs) (vs := (a.eval y).cells.toList) (v := a.eval y) (w := w) (by simp) (by rw [hpm.1, h5]; exact ti_size hti w) q3 hl hone
  obtain ⟨f1, f2, f3, f4, f5⟩ := setRow_facts w bb (vs.take off ++ (a.eval y).cells.toList ++ vs.drop (off + (a.eval y).cells.toList.length)).toArray
  obtain ⟨β', r1, _, _⟩ := r.turn (J := []) (ob := .box T (spl cs off ps) (spl us off (ps.map fun _ => Nat.succ s.m.k))) (rv := rv) (t' := t') h4 k2 (by simp) (by rw [f1]; exact Nat.le_refl _) f2 f3 f4
    (fun k _ hk => f5 k (fun e => hk (by rw [e]; exact Tr.root k4))) (fun k hk => ⟨by rw [f1]; exact (r.hp.new b t' k k2 hk).2, .inr (.inl hk)⟩) (r.hp.nd b t' k2) (.inl ⟨rfl, rfl⟩) (fun _ => ⟨rfl, rfl⟩) (fun β' m' hev => by
      have hcs : (spl cs off ps).length = cs.length := by
        rw [spl_eq _ _ _ (by rw [h5]; exact h6)]; simp; omega
      refine ⟨?_, bb, _, k4, q2, setRow_heap _ _ _ _ _ _ q3, ?_⟩
      · rw [hcs, q0, spl_eq _ _ _ (by simp [h5]; omega)]; simp; omega
      · have hg := hpm.go hev
        have hq := q4.go hev
        refine ⟨by rw [hcs, ← q4.1]; simp only [List.length_append, List.length_take, List.length_drop]; omega, fun j v c h8 h9 => ?_⟩
        rw [splice_get _ _ _ _ hl] at h8
        rw [spl_eq _ _ _ (by rw [h5]; exact h6), splice_get _ _ _ _ (by rw [h5]; exact h6)] at h9
        rw [hpm.1] at h8
        split at h8
        · rename_i hj; rw [if_pos hj] at h9; exact hg.2 _ v c h8 h9
        · rename_i hj; rw [if_neg hj] at h9; exact hq.2 _ v c h8 h9)
  refine wpo (w' := w.setRow bb (vs.take off ++ (a.eval y).cells.toList ++ vs.drop (off + (a.eval y).cells.toList.length)).toArray) (v := undef) (.inr ⟨?_, rfl⟩) (hK _ _ β' r1 (fun _ => trivial) (fun h => by cases h))
  simp only [execOp, ho, k5, Instr.storeAt, Instr.sureAddr, Sem.run_bind, Sem.run_pure, Result.andThen_ok, hrun]

theorem nodup_mid {A M M' D : List Nat} (h : (A ++ (M ++ D)).Nodup) (hM : M'.Nodup) (hd : ∀ x, x ∈ M' → x ∉ A ++ (M ++ D)) : (A ++ (M' ++ D)).Nodup := by
  rw [List.nodup_append] at h ⊢
  obtain ⟨h1, h2, h3⟩ := h
  rw [List.nodup_append] at h2
  obtain ⟨h4, h5, h6⟩ := h2
  refine ⟨h1, ?_, fun x hx y hy => ?_⟩
  · rw [List.nodup_append]
    refine ⟨hM, h5, fun x hx y hy e => ?_⟩
    subst e
    exact hd x hx (by simp [hy])
  · rcases List.mem_append.1 hy with hy | hy
    · rintro rfl
      exact hd x hy (by simp [hx])
    · exact h3 x hx y (by simp [hy])
theorem list_split {α : Type} (l : List α) (off n : Nat) (h : off + n ≤ l.length) : l = l.take off ++ ((l.drop off).take n ++ l.drop (off + n)) ∧ (l.take off).length = off ∧ ((l.drop off).take n).length = n := by
  refine ⟨?_, by simp; omega, by simp; omega⟩
  rw [← List.drop_drop, List.take_append_drop, List.take_append_drop]

theorem storeTree_sound (hTI : tiOk P TI = true) (hY : LayOk Y) (r : Rel Y.C E s a w β) {o : Oper} {t : TypeId} {x y : Operand} {i : TInfo} {b c τ off rv cv : Nat} {q : Int} {z z' : U.El τ} {d d' : Bool} {L : List (U.El τ)} {ps ds : List (Lf U)} {ids : List Nat} (ho : o.op = .store t x y)
    (h1 : fnd TI t = some i) (h2 : opd s x = .l (.oel b c τ q z off)) (h3 : parts (opr s y) = some ps) (h4 : s.m.o[b]? = some ⟨.tree τ d L, rv, cv⟩) (hcv : cv = c) (h5 : ps.length = i.k) (h6 : off + i.k ≤ U.K τ) (h7 : allO ps = true)
    (h8 : absb s.m ((((Y.kd τ).drop off).take i.k)) ps = some (ds, ids, d')) (hJ : (b :: ids).Nodup) (h9 : Y.C.bld τ (spl (Y.C.cel τ z) off ds) = some z') :
    SO P Y.C E a w o (.l .any) ⟨s.t, ⟨kil (Nat.succ s.m.k) ids (upd s.m.o b ⟨.tree τ (d && d') (L.set q.toNat z'), rv, Nat.succ s.m.k⟩), Nat.succ s.m.k, s.m.ns⟩, s.fr⟩ false := fun K Q hK => by
  have hti := tiOk_at hTI h1
  obtain ⟨hpm, hone⟩ := parts_mean (opr_mean r (x := y)) h3 h7
  have hxm := sv_l r h2
  obtain ⟨_, e', t', k1, k2, k3⟩ := hxm
  rw [h4] at k1; injection k1 with k1; subst k1
  obtain ⟨d0, L0, bb, a1, a2, a3, a4, a5⟩ := k3 hcv
  injection a1 with _ a1 a1'
  subst a1; subst a1'
  obtain ⟨l1, l2, x1, xz, x2, B1, Bz, B2, g1, g2, g3, g4, g5, g6, o1, o2, o3, hk0⟩ := tree_at r.hp k2 h4 rfl a3
  have hO := absb_mean r.hp h8 hpm (fun kd hk τ' e => hY.pos τ τ' (by subst e; exact List.mem_of_mem_drop (List.mem_of_mem_take hk)))
  have hvl : (a.eval y).cells.toList.length = i.k := by rw [hpm.1, h5]
  have hdl : ds.length = i.k := by rw [← hO.len, hvl]
  -- the element's cells in three parts
  obtain ⟨s1, s2, s3⟩ := list_split (Y.C.cel τ z) off i.k (by rw [Y.C.hlen]; exact h6)
  rw [s1] at o2
  obtain ⟨z1, zr, Bz1, Bzr, e1, e2, p1, p2⟩ := OwL.split o2
  obtain ⟨z2, z3, Bz2, Bz3, e3, e4, p3, p4⟩ := OwL.split p2
  have hz1 : z1.length = off := by rw [p1.len, s2]
  have hz2 : z2.length = i.k := by rw [p3.len, s3]
  -- the root's block
  rcases ownsRow_root g3 with ⟨b1, _⟩ | ⟨b', cur, b1, b2, b3, b4, b5, b6, b7⟩
  · rw [a4] at b1; cases b1
  rw [a4] at b1; injection b1 with b1; subst b1
  have hxs : cur.toList = (x1 ++ (xz ++ x2)) ++ cur.toList.drop (L.length * U.K τ) := by
    rw [← b7, List.take_append_drop]
  have hcur : cur.toList = (x1 ++ z1) ++ (z2 ++ (z3 ++ (x2 ++ cur.toList.drop (L.length * U.K τ)))) := by
    rw [e1, e3] at hxs
    simpa [List.append_assoc] using hxs
  have hpos : q.toNat * U.K τ + off = (x1 ++ z1).length := by rw [List.length_append, g4, hz1]
  have hnew : cur.toList.take (q.toNat * U.K τ + off) ++ (a.eval y).cells.toList ++ cur.toList.drop (q.toNat * U.K τ + off + (a.eval y).cells.toList.length) = (x1 ++ ((z1 ++ ((a.eval y).cells.toList ++ z3)) ++ x2)) ++ cur.toList.drop (L.length * U.K τ) := by
    rw [hvl, hpos]
    rw [show cur.toList.take (x1 ++ z1).length = x1 ++ z1 by rw [hcur, List.take_left]]
    rw [show cur.toList.drop ((x1 ++ z1).length + i.k) = z3 ++ (x2 ++ cur.toList.drop (L.length * U.K τ)) by
      rw [← List.drop_drop]
      conv => lhs; rw [hcur]
      rw [List.drop_left, ← hz2, List.drop_left]]
    simp [List.append_assoc]
  have hll : q.toNat * U.K τ + off + (a.eval y).cells.toList.length ≤ cur.toList.length := by
    rw [hvl, hcur, hpos]; simp; omega
  have hrun := store_run (P := P) (T := τ) (t := t) (b := bb) (off := q.toNat * U.K τ + off) (cur := cur.toList) (vs := (a.eval y).cells.toList) (v := a.eval y) (w := w) (by simp) (by rw [hvl]; exact ti_size hti w) (by simpa using b5) hll hone
  rw [hnew] at hrun
  obtain ⟨f1, f2, f3, f4, f5⟩ := setRow_facts w bb ((x1 ++ ((z1 ++ ((a.eval y).cells.toList ++ z3)) ++ x2)) ++ cur.toList.drop (L.length * U.K τ)).toArray
  have hnd := r.hp.nd b t' k2
  have hall : t'.all = bb :: (B1 ++ ((Bz1 ++ (Bz2 ++ Bz3)) ++ B2)) := by simp [Tr.all, a4, g6, e2, e4]
  rw [hall] at hnd
  have hbi := blks_nd r.hp (List.nodup_cons.1 hJ).2
  have hdisj : ∀ k, k ∈ blks β ids → k ∉ t'.all := fun k hk hk' => by
    obtain ⟨j, hj, u, hu, hub⟩ := blks_in hk
    exact r.hp.dist j b u t' k (fun e => (List.nodup_cons.1 hJ).1 (e ▸ hj)) hu k2 hub hk'
  let t2 : Tr := ⟨t'.b, t'.n, t'.c, B1 ++ ((Bz1 ++ (blks β ids ++ Bz3)) ++ B2)⟩
  have hall2 : t2.all = bb :: (B1 ++ ((Bz1 ++ (blks β ids ++ Bz3)) ++ B2)) := by simp [t2, Tr.all, a4]
  have hin2 : ∀ k ∈ t2.all, k ∈ t'.all ∨ k ∈ blks β ids := fun k hk => by
    rw [hall2] at hk; rw [hall]
    simp only [List.mem_cons, List.mem_append] at hk ⊢
    rcases hk with h | h | (h | h | h) | h
    · exact .inl (.inl h)
    · exact .inl (.inr (.inl h))
    · exact .inl (.inr (.inr (.inl (.inl h))))
    · exact .inr h
    · exact .inl (.inr (.inr (.inl (.inr (.inr h)))))
    · exact .inl (.inr (.inr (.inr h)))
  have hnd2 : t2.all.Nodup := by
    rw [hall2]
    have hd' : ∀ k, k ∈ blks β ids → k ∉ bb :: (B1 ++ ((Bz1 ++ (Bz2 ++ Bz3)) ++ B2)) := fun k hk => by rw [← hall]; exact hdisj k hk
    have e1 : bb :: (B1 ++ ((Bz1 ++ (Bz2 ++ Bz3)) ++ B2)) = (bb :: (B1 ++ Bz1)) ++ (Bz2 ++ (Bz3 ++ B2)) := by simp
    have e2 : bb :: (B1 ++ ((Bz1 ++ (blks β ids ++ Bz3)) ++ B2)) = (bb :: (B1 ++ Bz1)) ++ (blks β ids ++ (Bz3 ++ B2)) := by simp
    rw [e1] at hnd hd'
    rw [e2]
    exact nodup_mid hnd hbi hd'
  obtain ⟨β', r1, _, _⟩ := r.turn (J := ids) (ob := .tree τ (d && d') (L.set q.toNat z')) (rv := rv) (t' := t2) h4 k2 hJ (by rw [f1]; exact Nat.le_refl _) f2 f3 f4
    (fun k _ hk => f5 k (fun e => hk (by rw [e]; exact Tr.root a4))) (fun k hk => by
      rcases hin2 k hk with h | h
      · exact ⟨by rw [f1]; exact (r.hp.new b t' k k2 h).2, .inr (.inl h)⟩
      · obtain ⟨j, hj, u, hu, hub⟩ := blks_in h
        exact ⟨by rw [f1]; exact (r.hp.new j u k hu hub).2, .inr (.inr ⟨j, hj, u, hu, hub⟩)⟩) hnd2 (.inl ⟨rfl, rfl⟩) (fun h => by cases h) (fun β' m' hev => by
      have hkeep : ∀ k, k ≠ bb → (w.setRow bb ((x1 ++ ((z1 ++ ((a.eval y).cells.toList ++ z3)) ++ x2)) ++ cur.toList.drop (L.length * U.K τ)).toArray).heap[k]? = w.heap[k]? := fun k hk => f5 k hk
      have hne : ∀ k, (k ∈ B1 ∨ k ∈ Bz1 ∨ k ∈ Bz3 ∨ k ∈ B2) → k ≠ bb := fun k hk e => by
        subst e
        simp only [List.nodup_cons, List.mem_append] at hnd
        exact hnd.1 (by rcases hk with h | h | h | h <;> simp [h])
      have hneb : ∀ k, k ∈ blks β ids → k ≠ bb := fun k hk e => hdisj k hk (by rw [e]; exact Tr.root a4)
      have hcel : Y.C.cel τ z' = (Y.C.cel τ z).take off ++ (ds ++ (Y.C.cel τ z).drop (off + i.k)) := by
        rw [← Y.C.hmk τ _ z' h9, spl_eq _ _ _ (by rw [hdl, Y.C.hlen]; exact h6), hdl, List.append_assoc]
      have hset : L.set q.toNat z' = l1 ++ z' :: l2 := by rw [g1, ← g2]; simp
      refine ⟨hk0, x1 ++ ((z1 ++ ((a.eval y).cells.toList ++ z3)) ++ x2), ?_, ?_⟩
      · have hlx : (x1 ++ ((z1 ++ ((a.eval y).cells.toList ++ z3)) ++ x2)).length = L.length * U.K τ := by
          have := g3.1
          rw [e1, e3] at this
          simp only [List.length_append] at this ⊢
          rw [hvl, ← hz2]; omega
        rw [List.length_set]
        refine ⟨hlx, .inr ⟨bb, t'.c, _, ?_, Nat.zero_le _, setRow_heap _ _ _ _ _ _ (by simpa using b5), b3, b4, ?_, ?_⟩⟩
        · simp [t2, Tr.val, a4, b2]
        · have hh : cur.size = cur.toList.length := by simp
          rw [← b6, hh]
          simp only [List.size_toArray, List.length_append, List.length_drop]
          simp only [List.length_append] at hlx
          have : L.length * U.K τ ≤ cur.toList.length := by rw [← hh, b6]; exact Nat.mul_le_mul_right _ b3
          omega
        · simp only [List.toList_toArray]
          rw [← hlx, List.take_left]
      · rw [hset, List.map_append, List.flatten_append, List.map_cons, List.flatten_cons, hcel]
        have hsoft : (d && d') = true → d = true := fun h => by simp at h; exact h.1
        have hsoft' : (d && d') = true → d' = true := fun h => by simp at h; exact h.2
        exact OwL.app ((o1.conv hev.sz hev.hX hev.hc (fun k hk => hkeep k (hne k (.inl hk)))).fl hsoft)
          (OwL.app (OwL.app ((p1.conv hev.sz hev.hX hev.hc (fun k hk => hkeep k (hne k (.inr (.inl hk))))).fl hsoft)
            (OwL.app ((hO.conv hev.sz hev.hX hev.hc (fun k hk => hkeep k (hneb k hk))).fl hsoft') ((p4.conv hev.sz hev.hX hev.hc (fun k hk => hkeep k (hne k (.inr (.inr (.inl hk)))))).fl hsoft)))
            ((o3.conv hev.sz hev.hX hev.hc (fun k hk => hkeep k (hne k (.inr (.inr (.inr hk)))))).fl hsoft)))
  refine wpo (w' := w.setRow bb ((x1 ++ ((z1 ++ ((a.eval y).cells.toList ++ z3)) ++ x2)) ++ cur.toList.drop (L.length * U.K τ)).toArray) (v := undef) (.inr ⟨?_, rfl⟩) (hK _ _ β' r1 (fun _ => trivial) (fun h => by cases h))
  simp only [execOp, ho, a5, Instr.storeAt, Instr.sureAddr, Sem.run_bind, Sem.run_pure, Result.andThen_ok, hrun]
end
end Go.EV
