import Derived.Test.YtlnjelnfjgjanaaGreatDoorXqPa
/- Printed by wip/tools: models, walks, proofs. -/
set_option linter.all false
set_option maxRecDepth 100000
set_option maxHeartbeats 4000000
namespace Go.VK
open Go.RowKit Go.Proofs
noncomputable section
open EV (cB)
def aIt (w:D.World)(d:Int):Ny w d=some (jP w d):=by
 unfold Ny jP
 show bd (bif decide (0<=d) then _ else _) _=_
 cases decide (0<=d)<;>rfl
def J6 {p:Nat->Bool}{i:Nat}:((List.range (i+1)).filter p).map Int.ofNat=bif p i then((List.range i).filter p).map Int.ofNat++[(i:Int)] else((List.range i).filter p).map Int.ofNat:=by
 rw[gh,List.filter_append]
 cases h:p i<;>simp[h]
def aBc {p:Nat->Bool}{i:Nat}:(((List.range i).filter p).map Int.ofNat).length<=i:=by
 have:=fR p (List.range i)
 simpa using this
def aPc (w:D.World)(h:WOk w):oK w=some (bX w):=by
 have h1:=h.1
 have h2:=h.2.1
 unfold oK
 rw[aHf (s:=([],0)) (λi s=>i<=min w.Devices.length w.Stolen.length/\s=(((List.range i).filter (kS w)).map Int.ofNat,(i:Int))) (min w.Devices.length w.Stolen.length) (some (bX w)) (by omega) ⟨by omega,rfl⟩ (λi s rec hi hv=>by
  obtain⟨_,rfl⟩:=hv
  have hi1:i<w.Devices.length:=by omega
  have hi2:i<w.Stolen.length:=by omega
  have hl:=aBc (p:=kS w) (i:=i)
  refine .inl ⟨_,⟨by omega,rfl⟩,?_⟩
  simp only[dB hi1,dB hi2,ac,bd_s,aB h,aN hi2]
  rw[aB (by unfold aS;simp only[cW];omega),J6,aJ (by omega) (by omega)]
  have e:kS w i=(cZ w (i:Int)&& !w.Stolen[i]):=by
   unfold kS;rw[ao hi2,cA,List.getD,ae hi2];rfl
  rw[e]
  cases cZ w (i:Int)<;>cases w.Stolen[i]<;>rfl) (λs rec hv=>by
  obtain⟨_,rfl⟩:=hv
  have e:((List.range (min w.Devices.length w.Stolen.length)).filter (kS w)).map Int.ofNat=bX w:=by rw[aZ8];rfl
  have hb:(bif decide (((min w.Devices.length w.Stolen.length:Nat):Int)<(w.Devices.length:Int)) then some (decide (((min w.Devices.length w.Stolen.length:Nat):Int)<(w.Stolen.length:Int))) else some false)=some false:=by
   rcases fj w.Stolen.length w.Devices.length with q|q
   ·rw[Nat.min_eq_right (by omega),bN7 (ao (by omega))];simp
   ·rw[gO q,bN8 (ap (by omega))]
  simp only[e]
  rw[hb];rfl)]
 rfl
def Dh (w:D.World)(h:WOk w):oD w=some (bX w):=by
 have h1:=h.1
 unfold oD
 rw[aHf (s:=([],0)) (λi s=>i<=w.Devices.length/\s=(((List.range i).filter (kS w)).map Int.ofNat,i)) w.Devices.length (some (bX w)) (by omega) ⟨by omega,rfl⟩ (λi s rec hi hv=>by
  obtain⟨_,rfl⟩:=hv
  have hl:=aBc (p:=kS w) (i:=i)
  refine .inl ⟨_,⟨by omega,rfl⟩,?_⟩
  simp only[dB hi,ac,bd_s,aB h]
  rw[aB (by unfold aS;simp only[cW];omega),J6]
  unfold kS
  cases cZ w (i:Int) with
  |false=>rfl
  |true=>
   by_cases hi2:i<w.Stolen.length
   ·rw[dB hi2,ao hi2,List.getD,ae hi2,aN hi2]
    simp only[ac,bd_s,cu,cA]
    cases w.Stolen[i]<;>rfl
   ·rw[show decide ((i:Int)<(w.Stolen.length:Int))=false from ap (by omega),ap hi2];rfl) (λs rec hv=>by
  obtain⟨_,rfl⟩:=hv
  simp only[dF,ab];rfl)]
 rfl
end
end Go.VK
