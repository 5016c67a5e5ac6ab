import Derived.Test.YtffpnfmhcpcaaaaGreatDoorXgPa
/-
  Printed by wip/tools (own work of this part): models of functions, walks over the value kit, and proofs.
-/
set_option linter.unusedVariables false
set_option linter.unusedSimpArgs false
set_option maxRecDepth 100000
set_option maxHeartbeats 4000000
namespace Go.VK
open Go.RowKit Go.Proofs
noncomputable section
open EV (bW)
theorem y7 {p:Nat→Bool}{i:Nat}:((List.range (i+1)).filter p).map Int.ofNat=bif p i then((List.range i).filter p).map Int.ofNat++[(i:Int)] else((List.range i).filter p).map Int.ofNat:=by
 rw[List.range_succ,List.filter_append]
 cases h:p i<;>simp[h]
theorem aAb {p:Nat→Bool}{i:Nat}:(((List.range i).filter p).map Int.ofNat).length≤i:=by
 have:=List.length_filter_le p (List.range i)
 simpa using this
theorem zX (w:D.World)(h:WOk w):kZ w=some (cZ w):=by
 have h1:=h.1
 have h2:=h.2.1
 unfold kZ
 rw[Oq (s:=([],0)) (fun i s=>i≤min w.Devices.length w.Stolen.length∧s=(((List.range i).filter (nK w)).map Int.ofNat,(i:Int))) (min w.Devices.length w.Stolen.length) (some (cZ w)) (by omega) ⟨by omega,rfl⟩ (fun i s rec hi hv=>by
  obtain⟨_,rfl⟩:=hv
  have hi1:i<w.Devices.length:=by omega
  have hi2:i<w.Stolen.length:=by omega
  have hl:=aAb (p:=nK w) (i:=i)
  refine .inl ⟨_,⟨by omega,rfl⟩,?_⟩
  simp only[bD hi1,bD hi2,cond_true,bd_s,aH h,aG hi2]
  rw[aH (by unfold bO;simp only[List.length_singleton];omega),y7,aS (by omega) (by omega)]
  have e:nK w i=(kP w (i:Int)&& !w.Stolen[i]):=by
   unfold nK;rw[decide_eq_true hi2,Bool.true_and,List.getD,List.getElem?_eq_getElem hi2];rfl
  rw[e]
  cases kP w (i:Int)<;>cases w.Stolen[i]<;>rfl) (fun s rec hv=>by
  obtain⟨_,rfl⟩:=hv
  have e:((List.range (min w.Devices.length w.Stolen.length)).filter (nK w)).map Int.ofNat=cZ w:=by rw[aX3];rfl
  have hb:(bif decide (((min w.Devices.length w.Stolen.length:Nat):Int)<(w.Devices.length:Int)) then some (decide (((min w.Devices.length w.Stolen.length:Nat):Int)<(w.Stolen.length:Int))) else some false)=some false:=by
   rcases Nat.lt_or_ge w.Stolen.length w.Devices.length with q|q
   ·rw[Nat.min_eq_right (by omega),aMx (decide_eq_true (by omega))];simp
   ·rw[Nat.min_eq_left q,Zn (decide_eq_false (by omega))]
  simp only[e]
  rw[hb];rfl)]
 rfl
theorem zY (w:D.World)(h:WOk w):lC w=some (cZ w):=by
 have h1:=h.1
 unfold lC
 rw[Oq (s:=([],0)) (fun i s=>i≤w.Devices.length∧s=(((List.range i).filter (nK w)).map Int.ofNat,i)) w.Devices.length (some (cZ w)) (by omega) ⟨by omega,rfl⟩ (fun i s rec hi hv=>by
  obtain⟨_,rfl⟩:=hv
  have hl:=aAb (p:=nK w) (i:=i)
  refine .inl ⟨_,⟨by omega,rfl⟩,?_⟩
  simp only[bD hi,cond_true,bd_s,aH h]
  rw[aH (by unfold bO;simp only[List.length_singleton];omega),y7]
  unfold nK
  cases kP w (i:Int) with
  |false=>rfl
  |true=>
   by_cases hi2:i<w.Stolen.length
   ·rw[bD hi2,decide_eq_true hi2,List.getD,List.getElem?_eq_getElem hi2,aG hi2]
    simp only[cond_true,bd_s,Option.getD_some,Bool.true_and]
    cases w.Stolen[i]<;>rfl
   ·rw[show decide ((i:Int)<(w.Stolen.length:Int))=false from decide_eq_false (by omega),decide_eq_false hi2];rfl) (fun s rec hv=>by
  obtain⟨_,rfl⟩:=hv
  simp only[bE,cond_false];rfl)]
 rfl
end
end Go.VK
