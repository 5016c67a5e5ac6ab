import Derived.Test.YtinkjfapmhcgmaaGreatDoorEVztot
/-
  THE EVALUATOR's KIT: a contract with fresh results, taken for one whose results are only read. Plain theorems over any program; the conditions stand in each.
-/
set_option linter.unusedVariables false
set_option linter.unusedSimpArgs false
namespace Go.EV
open Go.RowKit Go.VK
variable {U:Uni} {Y:Lay U} {P:Program} {g:GI} {C:Cod U}
theorem OwP.rd {w:World}{Z:Nat→Prop}{v:Value}{B:List Nat}:∀{x:Bool×List (Lf U)},OwP C w v B x→(∀b∈B,¬Z b)→Rd w Z [] v (Ic x)
 |(true,cs),h,hB=>by
  obtain⟨vs,rfl,ho⟩:=h
  obtain⟨h1,h2⟩:=(OwL.aBK (X':=Z) rfl ho).rd (Z:=Z) (fun _ h=>h) hB
  refine .agg (by simpa using h1) fun i v c h3 h4=> ?_
  rw[List.getElem?_map] at h4
  obtain⟨x,h5,rfl⟩:=Option.map_eq_some_iff.1 h4
  exact h2 i v x (by simpa using h3) h5
 |(false,cs),h,hB=>by
  obtain⟨c,rfl,ho⟩:=h
  exact(Ow.aBK (X':=Z) rfl ho).rd (fun _ h=>h) hB
theorem OwPs.rd {w:World}{Z:Nat→Prop}:∀{vs:List Value} {xs:List (Bool×List (Lf U))} {B:List Nat},OwPs C w vs xs B→(∀b∈B,¬Z b)→vs.length=(xs.map Ic).length∧∀(i:Nat) (v:Value) (c:V),vs[i]? =some v→(xs.map Ic)[i]? =some c→Rd w Z [] v c
 |_,_,_, .n,_=>⟨rfl,fun i v c h=>by simp at h⟩
 |_,_,_, .c h hr,hB=>by
  obtain⟨h1,h2⟩:=hr.rd (Z:=Z) fun b hb=>hB b (List.mem_append.2 (.inr hb))
  refine⟨by simp only[List.length_cons,List.map_cons,h1],fun i v c h3 h4=> ?_⟩
  cases i with
  |zero=>
   simp only[List.getElem?_cons_zero,List.map_cons,Option.some.injEq] at h3 h4
   subst h3;subst h4
   exact h.rd fun b hb=>hB b (List.mem_append.2 (.inl hb))
  |succ i=>exact h2 i v c (by simpa using h3) (by simpa using h4)
theorem OwR.rd {w:World}{Z:Nat→Prop}{v:Value}{B:List Nat}{cps:List (Bool×List (Lf U))}(h:OwR C w v cps B)(hB:∀b∈B,¬Z b):Rd w Z [] v (vD (cps.map Ic)):=by
 unfold OwR at h
 split at h
 ·exact h.rd hB
 ·rename_i hne
  obtain⟨vs,rfl,ho⟩:=h
  obtain⟨h1,h2⟩:=ho.rd hB
  have e:vD (cps.map Ic)= .tup (cps.map Ic):=by
   match cps,hne with
   |[],_=>rfl
   |[x],hne=>exact absurd rfl (hne x)
   |x::y::r,_=>rfl
  rw[e]
  exact .tup (by simpa using h1) fun i v c h3 h4=>h2 i v c (by simpa using h3) h4
def Sum.pl (S:Sum U):Sum U:=⟨S.ar,S.rs,false,S.wt,S.m⟩
theorem bLk {f:FuncId}{S:Sum U}(h:Ie P g Y f S)(hw:S.wt=false)(hf:S.fr=true):Ie P g Y f S.pl:=fun a r hr=>by
 obtain⟨_,h2,_⟩:=h a r hr
 obtain⟨k1,k2⟩:=h2 hw hf
 refine⟨fun _ _=>⟨k1,fun w X vs hG hX hrd=>(k2 w X vs hG hX hrd).mono fun e w' hq=> ?_⟩,fun _ h=>(by cases h),fun hh=>by
  have hh:S.wt=true:=hh
  rw[hw] at hh;cases hh⟩
 obtain⟨v,B,e1,e2,e3,e4,e5⟩:=hq
 exact⟨v,_,e1,rfl,e5.rd fun b hb hx=>by have:=e4 b hb;have:=hX b hx;omega,e2⟩
end Go.EV
