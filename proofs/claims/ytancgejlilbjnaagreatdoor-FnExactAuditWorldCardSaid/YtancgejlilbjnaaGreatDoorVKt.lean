/-
  THE VALUE KIT, sixteenth part: strings.Split over the law of it that is laid at a program; the wrap of a tied row that keeps the world's shape.
-/
import Derived.Test.YtancgejlilbjnaaGreatDoorVKs
import Derived.Lib.SplitLaws
import Derived.HandedShaped
namespace Go.VK
/-- The world's cell of internal/bytealg.MaxLen holds some int. -/
def GMax (n : Nat) : GI where
  G w := ∃ m, w.cell? ⟨n, 0, none⟩ = some (.int .i64 m)
  st _ _ h he := by
    obtain ⟨m, hm⟩ := h
    exact ⟨m, he.cell hm⟩
theorem splitB_size (sep : ByteArray) : ∀ (k : Nat) (s l : ByteArray), l ∈ Lib.splitB sep 0 k s → l.size ≤ s.size
  | 0, s, l, h => by
    rw [Lib.splitB_zero] at h
    rw [List.mem_singleton.1 h]; exact Nat.le_refl _
  | k + 1, s, l, h => by
    unfold Lib.splitB at h
    split at h
    · rw [List.mem_singleton.1 h]; exact Nat.le_refl _
    · rcases List.mem_cons.1 h with rfl | h
      · exact ext_size _ _ _
      · exact Nat.le_trans (splitB_size sep k _ l h) (ext_size _ _ _)
theorem spec_split {P : Program} {F : FuncId} {T n : Nat} (hE : ∀ args w, (callFunc F args).run P w = .ok (.enter F args) w)
    (hS : ∀ (s sep : ByteArray) (m : Int) (w : World), s.size < 4294967281 → w.cell? ⟨n, 0, none⟩ = some (.int .i64 m) → 1 ≤ sep.size → Calls P F #[.string s, .string sep] w fun e w' =>
      e = .returned (.slice (some ⟨w.heap.size, 0, none⟩) (Lib.countB s sep + 1) (Lib.countB s sep + 1)) ∧ w' = w.alloc (.cells ((Lib.splitB sep 0 (Lib.countB s sep) s).map Value.string).toArray T))
    (s sep : ByteArray) (h1 : s.size < 4294967281) (h2 : 1 ≤ sep.size) : Spec P (GMax n) F [.str s, .str sep] (fun r => r = .slice 1 ((splitF s sep).map sV)) := by
  refine ⟨hE, fun w X0 vs hG hX0 hvs => ?_⟩
  obtain ⟨v, u, rfl⟩ : ∃ v u, vs = [v, u] := by
    match vs, hvs.1 with
    | [v, u], _ => exact ⟨v, u, rfl⟩
  obtain ⟨rfl, hv2⟩ := (hvs.2 0 v _ rfl rfl).str_inv
  obtain ⟨rfl, hu2⟩ := (hvs.2 1 u _ rfl rfl).str_inv
  obtain ⟨m, hm⟩ := hG
  refine (hS s sep m w h1 hm h2).mono ?_
  rintro e w' ⟨rfl, rfl⟩
  have hl : (splitF s sep).length = Lib.countB s sep + 1 := Lib.splitB_all sep h2 0 _ s rfl
  have hn : Lib.countB s sep + 1 = ((splitF s sep).map sV).length := by rw [List.length_map]; exact hl.symm
  have hcnt : Lib.countB s sep ≤ s.size + 1 := Lib.count_le s.data.toList sep.data.toList
  have hsz : ∀ l ∈ splitF s sep, l.size ≤ s.size := fun l h => splitB_size sep _ s l h
  refine ⟨_, _, rfl, rfl, ?_, Ext.alloc w _⟩
  have hget : ∀ (i j : Nat) (e : List V) (d : V), ((splitF s sep).map sV)[i]? = some e → e[j]? = some d → ∃ l, (splitF s sep)[i]? = some l ∧ j = 0 ∧ d = .str l := by
    intro i j e d h3 h4
    rw [List.getElem?_map] at h3
    obtain ⟨l, hl, rfl⟩ := Option.map_eq_some_iff.1 h3
    cases j with
    | zero => exact ⟨l, hl, rfl, by simpa [sV] using h4.symm⟩
    | succ j => simp [sV] at h4
  refine .slice (val := fun i j => .string ((splitF s sep).getD i ⟨#[]⟩)) hn (by rw [← hn]; omega) (Nat.le_refl _) (by unfold maxLen; omega) (fun hxx => by have := hX0 _ hxx; simp at this) (by simp)
    (fun e he => by obtain ⟨l, _, rfl⟩ := List.mem_map.1 he; rfl) (fun i j e d h3 h4 => ?_) (fun i j e d h3 h4 => ?_)
  · obtain ⟨l, h5, rfl, rfl⟩ := hget i j e d h3 h4
    rw [add_flat, Nat.zero_add, Nat.mul_one, Nat.add_zero]
    have h6 : (Lib.splitB sep 0 (Lib.countB s sep) s)[i]? = some l := h5
    rw [World.cell?_alloc_new]
    simp [List.getD, h5, h6]
  · obtain ⟨l, h5, rfl, rfl⟩ := hget i j e d h3 h4
    have := hsz l (List.mem_of_getElem? h5)
    have e6 : (splitF s sep).getD i ⟨#[]⟩ = l := by simp [List.getD, h5]
    rw [e6]
    exact .str (by unfold maxLen; omega)
end Go.VK
namespace Go
variable {H : Type} {enc : TypeId × Value → H}
/-- returnsInHanded_of_change_and, the world's shape handed on to the contract. -/
theorem VK.wrapShaped {a : Assume} {C : Checked} {os : Os} {f : FuncId} {fn : Func} {s : ChangeSpec} {conds : List PathCond} {apart fresh handsOn again : Bool} {X : World → Array Value → Prop}
    (hX : ∀ (w w' : World) (args : Array Value), w.heap = w'.heap → X w args → X w' args)
    (own : ownKnob C.prog.godebug = none) (started : os.Started) (noInit : C.prog.inits.idxOf? f = none) (hfn : C.prog.funcs[f]? = some fn)
    (witness : ∃ (w : World) (tape : Tape) (i : Input), w.os = os ∧ (w.forCall tape i).Shaped C.prog ∧ i.vars = [] ∧ Input.okWide C.prog (w.forCall tape i) .any w.heap.size f i ∧
      ((s.pre enc C.prog fn conds apart (w.forCall tape i).memory i.args ∧ X (w.forCall tape i).memory i.args) ∧ sizedMet enc C.prog fn (OpenSpec.ofChange s) apart (w.forCall tape i).memory i.args) ∧ a.holds C.prog (lone (Frame.enter C.prog f i.args .normal) [] (w.forCall tape i)))
    (contract : ∀ (W : World) (base : Nat) (args : Array Value) (ds gs : List (DataW H)) (before : List MemPlace),
      (∀ (j : Nat) t v, fn.params[j]? = some t → args[j]? = some v → Value.okWide C.prog W .any base t v) →
      DataW.Whole enc C.prog fn.params.toList s.vars apart W args.toList ds gs before →
      X W args → W.ShapedOpen C.prog →
      Calls C.prog f args W fun e W' => ∃ v, e = .returned v ∧ s.post enc C.prog fn apart fresh handsOn again W args v W') :
    ReturnsInHanded a C os f .any (fun w args => (s.pre enc C.prog fn conds apart w args ∧ X w args) ∧ sizedMet enc C.prog fn (OpenSpec.ofChange s) apart w args) (s.post enc C.prog fn apart fresh handsOn again) := by
  refine returnsInHanded_of_calls own started noInit witness ?_
  intro w tape i _ hsh _ hok hpre hholds
  obtain ⟨_, _, _, fn', hfn', _, _, _, _, hval⟩ := hok
  have e : fn' = fn := Option.some.inj (hfn'.symm.trans hfn)
  subst e
  obtain ⟨⟨⟨ds, gs, before, hw, hc⟩, hx⟩, hz⟩ := hpre
  have hw' := DataW.Whole.of_heap (w' := w.forCall tape i) (by rfl) hw
  refine (contract (w.forCall tape i) w.heap.size i.args ds gs before hval hw' (hX _ _ _ (by rfl) hx) hsh).mono fun e W' ⟨v, he, hp⟩ => ?_
  subst he
  exact ChangeSpec.post_blind hp
end Go
