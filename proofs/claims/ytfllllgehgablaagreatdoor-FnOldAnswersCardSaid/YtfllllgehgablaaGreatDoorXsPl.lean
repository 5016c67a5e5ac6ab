import Derived.Test.YtfllllgehgablaaGreatDoorXsPk
import Derived.Test.YtfllllgehgablaaGreatDoorXsM
/- Printed by wip/tools: models, walks, proofs. -/
set_option linter.all false
set_option maxRecDepth 100000
set_option maxHeartbeats 4000000
namespace Go.VK
open Go.RowKit Go.Proofs
noncomputable section
open EV (bU)
def Ws (b:List Int)(h:b.length<=34359738360):wR b=some (vD b):=by
 unfold wR vD
 rw[bJq (l:=b) IntKind.i64.wrap (by simp;omega) (λrec i s hi hs=>by simp only[dL hi,ae,aM hi,bd_s,fF hs]) (λrec s=>by simp only[dP,ab])];rfl
def Wt (b:List Int)(h:b.length<=34359738360):xR b=some (vD b):=by
 unfold xR vD
 rw[bJq (l:=b) IntKind.i64.wrap (by simp;omega) (λrec i s hi hs=>by simp only[dL hi,ae,aM hi,bd_s,fF hs]) (λrec s=>by simp only[dP,ab])];rfl
def Ed (k:Int)(s:ByteArray)(h:s.size<=34359738300):oJ k s=some (wF k s):=by
 have hb:=jJ s
 unfold oJ wF
 rw[aRl,aB (by omega),bd_s,aB (by rw[bH4];omega),bd_s,aT3 (kF _ _).1]
def aFb (s:ByteArray)(h:s.size<=34359738300):Hr s=some (bT s):=by unfold Hr;rw[aB h];rfl
def aZ3 {b:D.aAF}{s h:Int}(hf:decide (aK b s h>=0)=true):bA b.Entries (aK b s h)=some (b.Entries.getD (aK b s h).toNat default)/\(aK b s h).toNat<b.Entries.length/\(b.Entries.getD (aK b s h).toNat default).Site=s/\(b.Entries.getD (aK b s h).toNat default).Handle=h:=by
 have h0:=of_decide_eq_true hf
 obtain⟨l1,e,l2,e1,e2,e3⟩:=Ql (p:=λe:D.Entry=>e.Site==s&&e.Handle==h) (l:=b.Entries) (i:=0) h0
 have e3:aK b s h=((0+l1.length:Nat):Int):=e3
 rw[ca] at e3
 have hl:l1.length<b.Entries.length:=by rw[e1];simp
 have hg:b.Entries.getD l1.length default=e:=by rw[e1];simp[List.getD]
 rw[e3,cm,hg]
 simp only[aa,cI] at e2
 refine⟨?_,hl,e2.1,e2.2⟩
 rw[aM hl]
 have:b.Entries[l1.length]=e:=by rw[<-hg,List.getD,ac hl];rfl
 rw[this]
def bIr (b:D.aAF)(x:D.Entry):(vI b x).Entries.length<=b.Entries.length+1:=by
 unfold vI
 cases decide (aK b x.Site x.Handle>=0) with
 |true=>simp
 |false=>
  have:=congrArg List.length (ja (p:=λe=>sJ e x.Site x.Handle) (l:=b.Entries))
  simp only[aw] at this
  simp only[ab,aw,ct];omega
def aFc (b:D.aAF)(s h:Int)(hz:b.sz<=34359738360):Hu b s h=some (aMi b s h):=by
 have hq:=hz
 simp only[D.aAF.sz] at hq
 have hs:=bIr b (Vq b s h)
 unfold Hu aMi
 have hS:(vI b (Vq b s h)).sz<=34359738368:=by simp only[D.aAF.sz];omega
 rw[aB (show b.sz<=34359738368 by omega),aB (show b.sz<=34359738368 by omega)]
 simp only[aB (show b.sz<=34359738360 from hz),aB (show b.sz<=34359738368 by omega),bd_s]
 cases hf:decide (aK b s h>=0) with
 |true=>
  obtain⟨h1,h2,_,_⟩:=aZ3 hf
  have hv:Vq b s h=⟨s,h,IntKind.i64.wrap ((b.Entries.getD (aK b s h).toNat default).Version+1),false⟩:=by unfold Vq bH3;rw[hf];rfl
  rw[ae,h1,bd_s]
  cases hd:(b.Entries.getD (aK b s h).toNat default).Deleted with
  |false=>rfl
  |true=>
   rw[bd_s,bf,ab,nx_r,<-hv,aB hS]
   cases aP b<;>cases aP (vI b (Vq b s h))<;>rfl
 |false=>
  have hv:Vq b s h=⟨s,h,1,false⟩:=by unfold Vq bH3;rw[hf];rfl
  rw[ab,nx_r,<-hv,aB hS]
  cases aP b<;>cases aP (vI b (Vq b s h))<;>rfl
end
end Go.VK
