import Derived.Test.YtlnjelnfjgjanaaGreatXpPa
/- Printed by wip/tools: models, walks, proofs. -/
set_option linter.unusedVariables false
set_option linter.unusedSimpArgs false
set_option maxRecDepth 100000
set_option maxHeartbeats 4000000
namespace Go.VK
open Go.RowKit Go.Proofs
noncomputable section
open EV (bT)
theorem aGn (w:D.World)(d:Int):Ko w d=some (gI w d):=by
 unfold Ko gI
 show bd (bif decide (0≤d) then _ else _) _=_
 cases decide (0≤d)<;>rfl
theorem aN8 {p:Nat→Bool}{i:Nat}:((List.range (i+1)).filter p).map Int.ofNat=bif p i then((List.range i).filter p).map Int.ofNat++[(i:Int)] else((List.range i).filter p).map Int.ofNat:=by
 rw[List.range_succ,List.filter_append]
 cases h:p i<;>simp[h]
theorem aXl {p:Nat→Bool}{i:Nat}:(((List.range i).filter p).map Int.ofNat).length≤i:=by
 have:=List.length_filter_le p (List.range i)
 simpa using this
theorem Ck (w:D.World)(h:WOk w):nQ w=some (Dz w):=by
 have h1:=h.1
 unfold nQ
 rw[Om (s:=([],0)) (fun i s=>i≤w.Devices.length∧s=(((List.range i).filter (aFa w)).map Int.ofNat,i)) w.Devices.length (some (Dz w)) (by omega) ⟨by omega,rfl⟩ (fun i s rec hi hv=>by
  obtain⟨_,rfl⟩:=hv
  have hl:=aXl (p:=aFa w) (i:=i)
  refine .inl ⟨_,⟨by omega,rfl⟩,?_⟩
  simp only[dQ hi,cond_true,bd_s,aB h]
  rw[aB (by unfold aS;simp only[List.length_singleton];omega),aN8]
  unfold aFa
  cases gF w (i:Int) with
  |false=>rfl
  |true=>
   by_cases hi2:i<w.Stolen.length
   ·rw[dQ hi2,decide_eq_true hi2,List.getD,List.getElem?_eq_getElem hi2,aM hi2]
    simp only[cond_true,bd_s,Option.getD_some,Bool.true_and]
    cases w.Stolen[i]<;>rfl
   ·rw[show decide ((i:Int)<(w.Stolen.length:Int))=false from decide_eq_false (by omega),decide_eq_false hi2];rfl) (fun s rec hv=>by
  obtain⟨_,rfl⟩:=hv
  simp only[dS,cond_false];rfl)]
 rfl
theorem aMs {α β:Type}{f:α→List β}{g:α→Nat}(h:∀x,(f x).length≤g x):∀{l:List α},((l.map f).flatten).length≤(l.map g).sum
 |[]=>by simp
 |x::l=>by
  have:=aMs h (l:=l)
  have:=h x
  simp only[List.map_cons,List.flatten_cons,List.length_append,List.sum_cons];omega
theorem aQ0 (s:D.Site):(Nu s).length≤s.sz:=by
 have:=aMs (f:=jD) (g:=D.aAF.sz) (fun x=>by simp[jD,D.aAF.sz]) (l:=s.Accounts)
 unfold Nu;simp only[D.Site.sz];omega
theorem aXm {α β:Type}{f:α→List β}{l:List α}{i:Nat}:((l.take i).map f).flatten.length≤(l.map f).flatten.length:=by
 conv=>rhs;rw[←List.take_append_drop i l,List.map_append,List.flatten_append,List.length_append]
 omega
theorem aXn {l:List D.aAF}{F:(List Int×Nat→Option (List Int))→List Int×Nat→Option (List Int)}(hl:l.length≤34359738368)(hs:(l.map jD).flatten.length≤34359738368)
  (hF:∀rec i s (hi:i<l.length),s.length+(jD l[i]).length≤68719476736→F rec (s,i)=rec (s++jD l[i],i+1)) (hE:∀rec s,F rec (s,l.length)=some s):bT FUEL F ([],0)=some (l.map jD).flatten:=by
 rw[fD (l:=l) (s0:=[]) (fun s a=>s++jD a) (fun i s=>s=((l.take i).map jD).flatten) (fun s=>some s) (by omega) rfl
  (fun i s hi hv=>by
   rw[hv,List.take_add_one,List.getElem?_eq_getElem hi,List.map_append,List.flatten_append]
   simp only[Option.toList_some,List.map_cons,List.map_nil,List.flatten_cons,List.flatten_nil,List.append_nil])
  (fun rec i s hi hv=>hF rec i s hi (by
   have h1:=aXm (f:=jD) (l:=l) (i:=i+1)
   rw[List.take_add_one,List.getElem?_eq_getElem hi,List.map_append,List.flatten_append,List.length_append] at h1
   simp only[Option.toList_some,List.map_cons,List.map_nil,List.flatten_cons,List.flatten_nil,List.append_nil] at h1
   rw[hv];omega)) (fun rec s _=>hE rec s),Ns,List.nil_append]
theorem aXo {a:D.aAF}{s0:List Int}{F:(List Int×Nat→Option (List Int))→List Int×Nat→Option (List Int)}(hs:s0.length+(jD a).length≤68719476736)
  (hF:∀rec i (s:List Int) (hi:i<a.Credentials.length),s.length<68719476736→F rec (s,i)=rec (s++[a.Credentials[i].Public],i+1)) (hE:∀rec s,F rec (s,a.Credentials.length)=some s):bT FUEL F (s0,0)=some (s0++jD a):=by
 have hk:(jD a).length=a.Credentials.length:=by simp[jD]
 rw[fD (l:=a.Credentials) (fun s c=>s++[c.Public]) (fun i s=>s.length=s0.length+i) (fun s=>some s) (by omega) (by simp) (fun i s hi hv=>by simp;omega)
  (fun rec i s hi hv=>hF rec i s hi (by omega)) (fun rec s _=>hE rec s),Nt]
 rfl
theorem bD0 {w:D.World}{i:Nat}(hi:i<w.Sites.length):w.Sites[i].sz≤w.sz:=by
 have:=mR (f:=D.Site.sz) hi
 simp only[D.World.sz];omega
theorem bG2 {s:D.Site}:s.Accounts.length≤s.sz:=by simp only[D.Site.sz];omega
theorem aJj (w:D.World)(i:Int)(h:w.sz≤34359738368):Sg w i=some (jK w i):=by
 unfold Sg jK
 cases hd:gI w i with
 |false=>rfl
 |true=>
  simp only[gI,Bool.and_eq_true,decide_eq_true_eq] at hd
  have hi:i.toNat<w.Sites.length:=by omega
  have hz:=bD0 hi
  have hk:=aQ0 w.Sites[i.toNat]
  have ha:=bG2 (s:=w.Sites[i.toNat])
  have hat:bA w.Sites i=some w.Sites[i.toNat]:=mP hd.1 hi
  rw[cond_true,cond_true,hat,bd_s,List.getD,List.getElem?_eq_getElem hi,Option.getD_some]
  rw[aXn (l:=w.Sites[i.toNat].Accounts) (by omega) (by unfold Nu at hk;omega) (fun rec j s hj hs=>by
   simp only[bd_s,dQ hj,cond_true,aM hj]
   rw[aXo (a:=w.Sites[i.toNat].Accounts[j]) hs (fun rec q s hq hs=>by
    simp only[bd_s,dQ hq,cond_true,aM hq]
    rw[aB (by unfold aS;simp only[List.length_singleton];omega)]) (fun rec s=>by simp only[dS,cond_false])]
   rfl) (fun rec s=>by simp only[dS,cond_false])]
  rfl
theorem R7 (w:D.World)(h:w.sz≤34359738368):Ce w=some (jK w 0,jK w 1):=by
 unfold Ce;rw[aB h,aB h];rfl
end
end Go.VK
