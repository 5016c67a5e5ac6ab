import Derived.Test.YtjmlamaddedhlaaGreatDoorXrPk
import Derived.Test.YtjmlamaddedhlaaGreatDoorXrM
/- Printed by wip/tools: models, walks, proofs. -/
set_option linter.all false
set_option maxRecDepth 100000
set_option maxHeartbeats 4000000
namespace Go.VK
open Go.RowKit Go.Proofs
noncomputable section
open EV (bO)
def Sk (b:List Int)(h:b.length<=34359738360):uJ b=some (qD b):=by
 unfold uJ qD
 rw[bEw (l:=b) IntKind.i64.wrap (by simp;omega) (λrec i s hi hs=>by simp only[bY hi,ae,aK hi,bd_s,fB hs]) (λrec s=>by simp only[cB,ac])];rfl
def Sl (b:List Int)(h:b.length<=34359738360):tK b=some (qD b):=by
 unfold tK qD
 rw[bEw (l:=b) IntKind.i64.wrap (by simp;omega) (λrec i s hi hs=>by simp only[bY hi,ae,aK hi,bd_s,fB hs]) (λrec s=>by simp only[cB,ac])];rfl
def Ap (k:Int)(s:ByteArray)(h:s.size<=34359738300):mF k s=some (lJ k s):=by
 have hb:=gH s
 unfold mF lJ
 rw[aFe,aA (by omega),bd_s,aA (by rw[aVt];omega),bd_s,aQ2 (jK _ _).1]
def Aq (k:Int)(s:ByteArray)(h:s.size<=34359738300):mE k s=some (lJ k s):=by
 have hb:=gH s
 unfold mE lJ
 rw[aFe,aA (by omega),bd_s,aA (by rw[aVt];omega),bd_s]
def aDo (s:ByteArray)(h:s.size<=34359738300):Ee s=some (aY s):=by unfold Ee;rw[aA h];rfl
def aDp (s:ByteArray)(h:s.size<=34359738300):Dq s=some (aY s):=by unfold Dq;rw[aA h];rfl
def Y2 (b:D.aAC)(s h:Int)(hz:b.sz<=34359738368):zM b s h=some (aG b s h):=by
 simp only[D.aAC.sz] at hz
 unfold zM aG
 rw[Yf (l:=b.Entries) (λe=>e.Site==s&&e.Handle==h) (by omega) (λrec i hi=>by
  simp only[bY hi,ae,aK hi,bd_s];cases(b.Entries[i].Site==s)<;>rfl) (λrec=>by simp only[cB,ac])]
def aFj {b:D.aAC}{s h:Int}(hf:decide (aG b s h>=0)=true):aZ b.Entries (aG b s h)=some (b.Entries.getD (aG b s h).toNat default)/\(aG b s h).toNat<b.Entries.length/\(b.Entries.getD (aG b s h).toNat default).Site=s/\(b.Entries.getD (aG b s h).toNat default).Handle=h:=by
 have h0:=of_decide_eq_true hf
 obtain⟨l1,e,l2,e1,e2,e3⟩:=R3 (p:=λe:D.Entry=>e.Site==s&&e.Handle==h) (l:=b.Entries) (i:=0) h0
 have e3:aG b s h=((0+l1.length:Nat):Int):=e3
 rw[bu] at e3
 have hl:l1.length<b.Entries.length:=by rw[e1];simp
 have hg:b.Entries.getD l1.length default=e:=by rw[e1];simp[List.getD]
 rw[e3,bp,hg]
 simp only[aa,cF] at e2
 refine⟨?_,hl,e2.1,e2.2⟩
 rw[aK hl]
 have:b.Entries[l1.length]=e:=by rw[<-hg,List.getD,ab hl];rfl
 rw[this]
def aPf (b:D.aAC)(x:D.Entry):(mO b x).Entries.length<=b.Entries.length+1:=by
 unfold mO
 cases decide (aG b x.Site x.Handle>=0) with
 |true=>simp
 |false=>
  have:=congrArg List.length (eE (p:=λe=>gI e x.Site x.Handle) (l:=b.Entries))
  simp only[aw] at this
  simp only[ac,aw,dw];omega
def aDq (b:D.aAC)(s h:Int)(hz:b.sz<=34359738360):Eg b s h=some (R4 b s h):=by
 have hq:=hz
 simp only[D.aAC.sz] at hq
 have hs:=aPf b (lQ b s h)
 unfold Eg R4
 have hS:(mO b (lQ b s h)).sz<=34359738368:=by simp only[D.aAC.sz];omega
 rw[aA (show b.sz<=34359738368 by omega),aA (show b.sz<=34359738368 by omega)]
 simp only[aA (show b.sz<=34359738360 from hz),aA (show b.sz<=34359738368 by omega),bd_s]
 cases hf:decide (aG b s h>=0) with
 |true=>
  obtain⟨h1,h2,_,_⟩:=aFj hf
  have hv:lQ b s h=⟨s,h,IntKind.i64.wrap ((b.Entries.getD (aG b s h).toNat default).Version+1),false⟩:=by unfold lQ bAu;rw[hf];rfl
  rw[ae,h1,bd_s]
  cases hd:(b.Entries.getD (aG b s h).toNat default).Deleted with
  |false=>rfl
  |true=>
   rw[bd_s,bl,ac,nx_r,<-hv,aA hS]
   cases aI b<;>cases aI (mO b (lQ b s h))<;>rfl
 |false=>
  have hv:lQ b s h=⟨s,h,1,false⟩:=by unfold lQ bAu;rw[hf];rfl
  rw[ac,nx_r,<-hv,aA hS]
  cases aI b<;>cases aI (mO b (lQ b s h))<;>rfl
def aUc {α:Type}{p:α->Bool}{l:List α}:(l.takeWhile p).length<=l.length:=by
 have:=congrArg List.length (eE (p:=p) (l:=l))
 simp only[aw] at this;omega
def bJv {α:Type}{p:α->Bool}{l:List α}:l.takeWhile p=l.take (l.takeWhile p).length/\l.dropWhile p=l.drop (l.takeWhile p).length:=by
 have e:=eE (p:=p) (l:=l)
 have h1:=congrArg (List.take (l.takeWhile p).length) e
 have h2:=congrArg (List.drop (l.takeWhile p).length) e
 rw[gb] at h1
 rw[gE] at h2
 exact⟨h1,h2⟩
def bB0 (b:D.aAC)(x:D.Entry)(hz:b.Entries.length<=34359738360){F:(Int->Option Int)->Int->Option Int}
  (hF:∀rec i (hi:i<b.Entries.length),F rec (i:Int)=bif dE b.Entries[i] x then rec (((i+1:Nat):Int)) else some (i:Int)) (hE:∀rec,F rec (b.Entries.length:Int)=some (b.Entries.length:Int)):bO FUEL F 0=some (((b.Entries.takeWhile λe=>gI e x.Site x.Handle).length:Nat):Int):=by
 refine aGo (λi s=>i<=(b.Entries.takeWhile λe=>gI e x.Site x.Handle).length/\s=(i:Int)) (b.Entries.takeWhile λe=>gI e x.Site x.Handle).length _ (by have:=aUc (p:=λe=>gI e x.Site x.Handle) (l:=b.Entries);omega) ⟨by omega,rfl⟩ (λi s rec hi hv=> ?_) (λs rec hv=> ?_)
 ·obtain⟨_,rfl⟩:=hv
  rcases aFi (λe=>gI e x.Site x.Handle) b.Entries i (by omega) with⟨h1,h2,_⟩|⟨h1,_⟩
  ·refine .inl ⟨_,⟨by omega,rfl⟩,?_⟩
   rw[hF rec i h1]
   have:dE b.Entries[i] x=true:=h2
   rw[this];rfl
  ·omega
 ·obtain⟨_,rfl⟩:=hv
  rcases aFi (λe=>gI e x.Site x.Handle) b.Entries _ (ak _) with⟨_,_,h3⟩|⟨_,h2⟩
  ·omega
  ·rcases fc (b.Entries.takeWhile λe=>gI e x.Site x.Handle).length b.Entries.length with hlt|hge
   ·rw[hF rec _ hlt]
    have:dE b.Entries[(b.Entries.takeWhile λe=>gI e x.Site x.Handle).length] x=false:=h2 hlt
    rw[this];rfl
   ·have:=aUc (p:=λe=>gI e x.Site x.Handle) (l:=b.Entries)
    have e:(b.Entries.takeWhile λe=>gI e x.Site x.Handle).length=b.Entries.length:=by omega
    rw[e,hE]
def aDr (b:D.aAC)(s h:Int)(hz:b.sz<=34359738360):Du b s h=some (R4 b s h):=by
 have hq:=hz
 simp only[D.aAC.sz] at hq
 have hs:=aPf b (lQ b s h)
 have hS:(mO b (lQ b s h)).sz<=34359738368:=by simp only[D.aAC.sz];omega
 unfold Du R4
 simp only[aA (show b.sz<=34359738368 by omega),bd_s]
 cases hb:aI b with
 |false=>simp
 |true=>
  rw[bl,ac]
  cases hf:decide (aG b s h>=0) with
  |true=>
   obtain⟨h1,h2,h3,h4⟩:=aFj hf
   have h0:=of_decide_eq_true hf
   have hv:lQ b s h=⟨s,h,IntKind.i64.wrap ((b.Entries.getD (aG b s h).toNat default).Version+1),false⟩:=by unfold lQ bAu;rw[hf];rfl
   have hset:mO b (lQ b s h)=⟨b.Entries.set (aG b s h).toNat (lQ b s h)⟩:=by
    unfold mO
    rw[show(lQ b s h).Site=s from rfl,show(lQ b s h).Handle=h from rfl,hf];rfl
   rw[ae,h1,bd_s]
   cases hd:(b.Entries.getD (aG b s h).toNat default).Deleted with
   |false=>rfl
   |true=>
    rw[bd_s,bl,ac]
    rw[Bg h0 (by rw[bq];exact h2),bd_s,fw,bd_s,nx_r,List.set_set,h3,h4,<-hv,<-hset,aA hS,bd_s]
    cases aI (mO b (lQ b s h))<;>rfl
  |false=>
   have hv:lQ b s h=⟨s,h,1,false⟩:=by unfold lQ bAu;rw[hf];rfl
   have hset:mO b (lQ b s h)=⟨b.Entries.takeWhile (λe=>gI e s h)++[lQ b s h]++b.Entries.dropWhile (λe=>gI e s h)⟩:=by
    unfold mO
    rw[show(lQ b s h).Site=s from rfl,show(lQ b s h).Handle=h from rfl,hf];rfl
   have hl:=aUc (p:=λe=>gI e s h) (l:=b.Entries)
   obtain⟨w1,w2⟩:=bJv (p:=λe=>gI e s h) (l:=b.Entries)
   rw[<-hv,ac,bB0 b (lQ b s h) hq (λrec i hi=>by
    simp only[bY hi,ae,aK hi,bd_s,aH (show-9223372036854775808<=(i:Int)+1 by omega) (by omega)];rfl) (λrec=>by simp only[cB,ac,bd_s])]
   rw[show(lQ b s h).Site=s from rfl,show(lQ b s h).Handle=h from rfl,bd_s,aFc]
   rw[aA (show jF b.Entries _ by unfold jF;omega),aA (show jF b.Entries _ by unfold jF;omega),aA (by unfold aS;simp;omega),aA (by unfold aS;simp;omega),aA (by unfold aS;simp;omega),nx_r,bh,<-w1,<-w2,<-hset,aA hS,bd_s]
   cases aI (mO b (lQ b s h))<;>rfl
end
end Go.VK
