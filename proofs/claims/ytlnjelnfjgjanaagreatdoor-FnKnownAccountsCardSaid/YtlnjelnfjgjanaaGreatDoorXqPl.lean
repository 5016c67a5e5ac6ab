import Derived.Test.YtlnjelnfjgjanaaGreatDoorXqPk
import Derived.Test.YtlnjelnfjgjanaaGreatDoorXqM
/- Printed by wip/tools: models, walks, proofs. -/
set_option linter.all false
set_option maxRecDepth 100000
set_option maxHeartbeats 4000000
namespace Go.VK
open Go.RowKit Go.Proofs
noncomputable section
open EV (cB)
def Xa (b:List Int)(h:b.length<=34359738360):wR b=some (tX b):=by
 unfold wR tX
 rw[bH1 (l:=b) IntKind.i64.wrap (by simp;omega) (λrec i s hi hs=>by simp only[dB hi,ac,aN hi,bd_s,fK hs]) (λrec s=>by simp only[dF,ab])];rfl
def Xb (b:List Int)(h:b.length<=34359738360):xN b=some (tX b):=by
 unfold xN tX
 rw[bH1 (l:=b) IntKind.i64.wrap (by simp;omega) (λrec i s hi hs=>by simp only[dB hi,ac,aN hi,bd_s,fK hs]) (λrec s=>by simp only[dF,ab])];rfl
def Di (k:Int)(s:ByteArray)(h:s.size<=34359738300):oC k s=some (lS k s):=by
 have hb:=iI s
 unfold oC lS
 rw[aF8,aB (by omega),bd_s,aB (by rw[aX6];omega),bd_s,aSu (kE _ _).1]
def Dj (k:Int)(s:ByteArray)(h:s.size<=34359738300):oF k s=some (lS k s):=by
 have hb:=iI s
 unfold oF lS
 rw[aF8,aB (by omega),bd_s,aB (by rw[aX6];omega),bd_s]
def aEv (s:ByteArray)(h:s.size<=34359738300):Gy s=some (aR s):=by unfold Gy;rw[aB h];rfl
def aEw (s:ByteArray)(h:s.size<=34359738300):Hy s=some (aR s):=by unfold Hy;rw[aB h];rfl
def aBn (b:D.aAC)(s h:Int)(hz:b.sz<=34359738368):Df b s h=some (aG b s h):=by
 simp only[D.aAC.sz] at hz
 unfold Df aG
 rw[sI (l:=b.Entries) (λe=>e.Site==s&&e.Handle==h) (by omega) (λrec i hi=>by
  simp only[dB hi,ac,aN hi,bd_s];cases(b.Entries[i].Site==s)<;>rfl) (λrec=>by simp only[dF,ab])]
def aQ6 {b:D.aAC}{s h:Int}(hf:decide (aG b s h>=0)=true):bD b.Entries (aG b s h)=some (b.Entries.getD (aG b s h).toNat default)/\(aG b s h).toNat<b.Entries.length/\(b.Entries.getD (aG b s h).toNat default).Site=s/\(b.Entries.getD (aG b s h).toNat default).Handle=h:=by
 have h0:=of_decide_eq_true hf
 obtain⟨l1,e,l2,e1,e2,e3⟩:=Qi (p:=λe:D.Entry=>e.Site==s&&e.Handle==h) (l:=b.Entries) (i:=0) h0
 have e3:aG b s h=((0+l1.length:Nat):Int):=e3
 rw[ce] at e3
 have hl:l1.length<b.Entries.length:=by rw[e1];simp
 have hg:b.Entries.getD l1.length default=e:=by rw[e1];simp[List.getD]
 rw[e3,bv,hg]
 simp only[aa,cN] at e2
 refine⟨?_,hl,e2.1,e2.2⟩
 rw[aN hl]
 have:b.Entries[l1.length]=e:=by rw[<-hg,List.getD,ae hl];rfl
 rw[this]
def bHg (b:D.aAC)(x:D.Entry):(vQ b x).Entries.length<=b.Entries.length+1:=by
 unfold vQ
 cases decide (aG b x.Site x.Handle>=0) with
 |true=>simp
 |false=>
  have:=congrArg List.length (je (p:=λe=>sM e x.Site x.Handle) (l:=b.Entries))
  simp only[av] at this
  simp only[ab,av,cW];omega
def aEx (b:D.aAC)(s h:Int)(hz:b.sz<=34359738360):Ha b s h=some (aLy b s h):=by
 have hq:=hz
 simp only[D.aAC.sz] at hq
 have hs:=bHg b (Vx b s h)
 unfold Ha aLy
 have hS:(vQ b (Vx b s h)).sz<=34359738368:=by simp only[D.aAC.sz];omega
 rw[aB (show b.sz<=34359738368 by omega),aB (show b.sz<=34359738368 by omega)]
 simp only[aB (show b.sz<=34359738360 from hz),aB (show b.sz<=34359738368 by omega),bd_s]
 cases hf:decide (aG b s h>=0) with
 |true=>
  obtain⟨h1,h2,_,_⟩:=aQ6 hf
  have hv:Vx b s h=⟨s,h,IntKind.i64.wrap ((b.Entries.getD (aG b s h).toNat default).Version+1),false⟩:=by unfold Vx bGm;rw[hf];rfl
  rw[ac,h1,bd_s]
  cases hd:(b.Entries.getD (aG b s h).toNat default).Deleted with
  |false=>rfl
  |true=>
   rw[bd_s,ay,ab,nx_r,<-hv,aB hS]
   cases aM b<;>cases aM (vQ b (Vx b s h))<;>rfl
 |false=>
  have hv:Vx b s h=⟨s,h,1,false⟩:=by unfold Vx bGm;rw[hf];rfl
  rw[ab,nx_r,<-hv,aB hS]
  cases aM b<;>cases aM (vQ b (Vx b s h))<;>rfl
end
end Go.VK
