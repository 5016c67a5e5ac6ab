import Derived.Test.YtjmlamaddedhlaaGreatDoorXrPa
import Derived.Test.YtjmlamaddedhlaaGreatDoorXrM
/- Printed by wip/tools: models, walks, proofs. -/
set_option linter.all false
set_option maxRecDepth 100000
set_option maxHeartbeats 4000000
namespace Go.VK
open Go.RowKit Go.Proofs
noncomputable section
open EV (bO)
def aHq (a:D.Entry)(s h:Int):Jn a s h=some (gI a s h):=by
 unfold Jn gI
 cases decide (a.Site<s)<;>cases(a.Site==s)<;>rfl
def Rx (a b:D.Entry):uA a b=some (dE a b):=by
 unfold uA dE
 cases decide (a.Site<b.Site)<;>cases(a.Site==b.Site)<;>rfl
def aR8 {l:List D.Entry}{i:Nat}(hi:i<l.length)(hl:l.length<=34359738368){q:D.Entry->Bool}(hq:∀x,q x=dE x l[i]):
  (bif (!bE l[i].Site (0:Int) (2147483646:Int)) then(some (true)) else(bif (!bE l[i].Handle (0:Int) (1000000:Int)) then(some (true)) else(bif (!bE l[i].Version (1:Int) (1000000:Int)) then(some (true)) else(bif (decide ((i:Int)>(0:Int))) then(bd (aZ l (IntKind.i64.wrap ((i:Int)-(1:Int)))) λ(z4:(D.Entry))=>some (!q z4)) else(some (false))))))=some (Ht l i l[i]):=by
 unfold Ht
 cases bE l[i].Site 0 2147483646 with
 |false=>rfl
 |true=>
  cases bE l[i].Handle 0 1000000 with
  |false=>rfl
  |true=>
   cases bE l[i].Version 1 1000000 with
   |false=>rfl
   |true=>
    by_cases h0:(i:Int)>0
    ·rw[ap h0,aH (by omega) (by omega)]
     have hat:aZ l ((i:Int)-1)=some l[i-1]:=by
      rw[show(i:Int)-1=((i-1:Nat):Int) by omega];exact aK (by omega)
     have hg:l.getD (i-1) default=l[i-1]:=by rw[List.getD,ab (by omega),cL]
     simp only[hat,bd_s,hq,hg,bl,ac,ae,cE,dc]
    ·rw[aq h0];rfl
def aDe (b:D.aAC)(h:b.sz<=34359738368):Ef b=some (aI b):=by
 simp only[D.aAC.sz] at h
 unfold Ef aI
 rw[iR (l:=b.Entries) (Ht b.Entries) (.inl false) (.inr ()) (by omega) (λrec i hi=>by
  simp only[bY hi,ae,aK hi,bd_s]
  rw[aR8 hi h (q:=λx=>gI x b.Entries[i].Site b.Entries[i].Handle) (λx=>rfl)]
  rfl) (λrec=>by simp only[cB,ac])]
 cases fD (Ht b.Entries) 0 b.Entries with
 |true=>simp[nx]
 |false=>simp[nx]
def aDf (b:D.aAC)(h:b.sz<=34359738368):Dt b=some (aI b):=by
 simp only[D.aAC.sz] at h
 unfold Dt aI
 by_cases h20:(b.Entries.length:Int)>20
 ·rw[ap h20,show decide ((b.Entries.length:Int)<=20)=false from aq (by omega)];rfl
 ·rw[aq h20,show decide ((b.Entries.length:Int)<=20)=true from ap (by omega),ac]
  rw[iR (l:=b.Entries) (Ht b.Entries) (.inl false) (.inr ()) (by omega) (λrec i hi=>by
   simp only[bY hi,ae,aK hi,bd_s]
   rw[aR8 hi h (q:=λx=>dE x b.Entries[i]) (λx=>rfl)]
   rfl) (λrec=>by simp only[cB,ac])]
  cases fD (Ht b.Entries) 0 b.Entries<;>rfl
def V9 (b:D.aAC)(s h:Int)(hz:b.sz<=34359738368):Ae b s h=some (aG b s h):=by
 simp only[D.aAC.sz] at hz
 unfold Ae aG
 exact Yf (l:=b.Entries) (λ(e:D.Entry)=>e.Site==s&&e.Handle==h) (by omega) (λrec i hi=>by
  simp only[bY hi,ae,aK hi,bd_s]
  cases(b.Entries[i].Site==s)<;>rfl) (λrec=>by simp only[cB,ac])
def aHr (b:D.aAC)(h:b.sz<=34359738368):Jl b=some (b):=by
 simp only[D.aAC.sz] at h
 unfold Jl
 rw[aA (by unfold aS;simp only[ce];omega)];rfl
def Yz (b:D.aAC)(h:b.sz<=34359738368):wM b=some (b):=by
 simp only[D.aAC.sz] at h
 unfold wM
 rw[aA (by unfold aS;simp only[ce];omega)];rfl
def aFi (p:D.Entry->Bool):∀(l:List D.Entry) (i:Nat),i<=(l.takeWhile p).length->(∃hi:i<l.length,p l[i]=true/\i<(l.takeWhile p).length)\/(i=(l.takeWhile p).length/\∀hi:i<l.length,p l[i]=false)
 |[],i,h=> .inr ⟨by simpa using h,λhi=>by simp at hi⟩
 |x::l,i,h=>by
  rw[df] at h ⊢
  cases hp:p x with
  |false=>
   rw[hp] at h
   simp at h
   subst h
   exact .inr ⟨by simp,λ_=>hp⟩
  |true=>
   rw[hp] at h
   simp only[gO,az] at h ⊢
   cases i with
   |zero=>exact .inl ⟨by simp,hp,by omega⟩
   |succ i=>
    rcases aFi p l i (by omega) with⟨h1,h2,h3⟩|⟨h1,h2⟩
    ·exact .inl ⟨by simpa using h1,h2,by omega⟩
    ·exact .inr ⟨by omega,λhi=>h2 (by simpa using hi)⟩
def aWb (p:D.Entry->Bool):∀l:List D.Entry,l.take (l.takeWhile p).length=l.takeWhile p
 |[]=>rfl
 |x::l=>by
  rw[df]
  cases p x with
  |false=>rfl
  |true=>simp only[gO,az,gR];rw[aWb p l]
def aWc (p:D.Entry->Bool):∀l:List D.Entry,l.drop (l.takeWhile p).length=l.dropWhile p
 |[]=>rfl
 |x::l=>by
  rw[df,List.dropWhile_cons]
  cases p x with
  |false=>rfl
  |true=>simp only[gO,az,fY];rw[aWc p l]
def aKw (b:D.aAC)(x:D.Entry)(h:b.sz<=34359738360):Qd b x=some (mO b x):=by
 have h':=h
 simp only[D.aAC.sz] at h
 unfold Qd mO
 rw[aA (by omega),bd_s,aA (by omega),bd_s]
 by_cases hf:aG b x.Site x.Handle>=0
 ·rw[ap hf,ae,ae]
  have:=aFq (show 0<=iP (λe=>e.Site==x.Site&&e.Handle==x.Handle) 0 b.Entries from hf)
  have hlt:(aG b x.Site x.Handle).toNat<b.Entries.length:=by unfold aG;omega
  rw[Bg hf hlt];rfl
 ·rw[aq hf,ac,ac]
  have htl:(b.Entries.takeWhile λe=>gI e x.Site x.Handle).length<=b.Entries.length:=(List.takeWhile_sublist _).length_le
  rw[aGo (λi s=>i<=(b.Entries.takeWhile λe=>gI e x.Site x.Handle).length/\s=(i:Int)) b.Entries.length (some ((b.Entries.takeWhile λe=>gI e x.Site x.Handle).length:Int)) (s:=(0:Int)) (by omega) ⟨by omega,rfl⟩ (λi s rec hi hv=>by
   obtain⟨h1,rfl⟩:=hv
   rcases aFi _ _ i h1 with⟨g1,g2,g3⟩|⟨g1,g2⟩
   ·refine .inl ⟨_,⟨by omega,rfl⟩,?_⟩
    simp only[bY hi,ae,aK hi,bd_s,g2]
    rw[aH (by omega) (by omega)];rfl
   ·refine .inr ?_
    simp only[bY hi,ae,aK hi,bd_s,g2 hi,ac]
    rw[<-g1]) (λs rec hv=>by
   obtain⟨h1,rfl⟩:=hv
   have e:b.Entries.length=(b.Entries.takeWhile λe=>gI e x.Site x.Handle).length:=by omega
   simp only[cB,ac,bd_s]
   rw[<-e]),bd_s]
  rw[aA ⟨by omega,by simpa using htl⟩,aA ⟨by omega,by simpa using htl⟩,aA (by unfold aS;simp;omega),aA (by unfold aS;simp;omega),aA (by unfold aS;simp;omega)]
  rw[bp,bh]
  rw[aWb,aWc]
def aYh {l:List D.Entry}{k:Int}(h0:0<=k)(h1:k.toNat<l.length)(x:D.Entry):(bd (aZ l k) λ(z9:D.Entry)=>bif (decide (x.Version>z9.Version)) then(some (true)) else(bd (aZ l k) λ(z10:D.Entry)=>bif (x.Version==z10.Version) then(some (x.Deleted)) else(some (false))))=some (sW x (l.getD k.toNat default)):=by
 rw[Bg h0 h1,List.getD,ab h1,cL]
 simp only[bd_s]
 unfold sW
 cases decide (x.Version>l[k.toNat].Version)<;>cases(x.Version==l[k.toNat].Version)<;>rfl
def Mk (a b:D.aAC)(h:a.sz<=34359738368/\b.sz<=34359738368):rE a b=some (fJ a b):=by
 unfold rE fJ
 rw[aA h.1,bd_s]
 cases ha:aI a with
 |false=>rw[aA h.1];rfl
 |true=>
  rw[aA h.2]
  cases hb:aI b with
  |false=>rw[aA h.1];rfl
  |true=>
   obtain⟨la,sa⟩:=aOu ha
   obtain⟨lb,sb⟩:=aOu hb
   rw[aA h.1]
   simp only[bl,ac,ae,bd_s,dl]
   rw[aM3 (l:=b.Entries) (s0:=a.Entries) (λo x=>cK o [x]) (λi o=>srt o/\o.length<=20+i) (λo=>some o) (by omega) ⟨sa,by omega⟩ (λi o hi hv=>by
     have:=sF _ o [b.Entries[i]] (ak _)
     exact⟨aVo hv.1,by simp only[dw] at this;omega⟩) (λrec i o hi hv=>by
     obtain⟨hs,hl⟩:=hv
     simp only[bY hi,ae,aK hi,bd_s]
     rw[aA (by simp only[D.aAC.sz];omega),bd_s,<-bAq hs]
     have hk:(bif decide (aG ⟨o⟩ b.Entries[i].Site b.Entries[i].Handle<0) then some true else bd (aZ o (aG ⟨o⟩ b.Entries[i].Site b.Entries[i].Handle)) λ(z9:D.Entry)=>bif (decide (b.Entries[i].Version>z9.Version)) then(some (true)) else(bd (aZ o (aG ⟨o⟩ b.Entries[i].Site b.Entries[i].Handle)) λ(z10:D.Entry)=>bif (b.Entries[i].Version==z10.Version) then(some (b.Entries[i].Deleted)) else(some (false))))=some (decide (aG ⟨o⟩ b.Entries[i].Site b.Entries[i].Handle<0)||sW b.Entries[i] (o.getD (aG ⟨o⟩ b.Entries[i].Site b.Entries[i].Handle).toNat default)):=by
      by_cases hf:aG ⟨o⟩ b.Entries[i].Site b.Entries[i].Handle<0
      ·rw[ap hf];rfl
      ·rw[aq hf,ac]
       have:=aFq (show 0<=iP (λ(e:D.Entry)=>e.Site==b.Entries[i].Site&&e.Handle==b.Entries[i].Handle) 0 o from by unfold aG at hf;simp only at hf;omega)
       rw[aYh (by omega) (by unfold aG;simp only;omega)];rfl
     rw[hk,bd_s]
     cases(decide (aG ⟨o⟩ b.Entries[i].Site b.Entries[i].Handle<0)||sW b.Entries[i] (o.getD (aG ⟨o⟩ b.Entries[i].Site b.Entries[i].Handle).toNat default)) with
     |false=>rfl
     |true=>rw[ae,ae,aA (by simp only[D.aAC.sz];omega)];rfl) (λrec o _=>by simp only[cB,ac])]
   rw[aGv _ _ sb,bd_s]
   have hm:=sF _ a.Entries b.Entries (ak _)
   rw[aA (by simp only[D.aAC.sz];omega),bd_s]
   cases aI ⟨cK a.Entries b.Entries⟩<;>rfl
def drop_at {l:List D.Entry}{i:Nat}(h:i<l.length):l.drop i=l[i]::l.drop (i+1):=cj h
def aUb (e f:D.Entry){X:Int×Int×Int×Bool->Option (List D.Entry)}:(bd (bd (bif (decide (f.Version>e.Version)) then(some (true)) else(bif (f.Version==e.Version) then(some (f.Deleted)) else(some (false)))) λ(z10:Bool)=>bif z10 then(some (f.Site,f.Handle,f.Version,f.Deleted)) else(some (e.Site,e.Handle,e.Version,e.Deleted))) X)=X ((qN e f).Site,(qN e f).Handle,(qN e f).Version,(qN e f).Deleted):=by
 unfold qN sW
 cases decide (f.Version>e.Version)<;>cases(f.Version==e.Version)<;>cases hd:f.Deleted<;>simp[bd,hd]
def Ml (a b:D.aAC)(h:a.sz<=34359738368/\b.sz<=34359738368):qX a b=some (fJ a b):=by
 unfold qX fJ
 rw[aA h.1,bd_s]
 cases ha:aI a with
 |false=>rw[aA h.1];rfl
 |true=>
  rw[aA h.2]
  cases hb:aI b with
  |false=>rw[aA h.1];rfl
  |true=>
   obtain⟨la,sa⟩:=aOu ha
   obtain⟨lb,sb⟩:=aOu hb
   simp only[bl,ac,ae,bd_s,dl]
   have hm:=sF _ a.Entries b.Entries (ak _)
   rw[aGo (λn s=>∃(i k:Nat) (o:List D.Entry),s=((i:Int),(k:Int),o)/\i<=a.Entries.length/\k<=b.Entries.length/\n<=i+k/\o++cK (a.Entries.drop i) (b.Entries.drop k)=cK a.Entries b.Entries) (a.Entries.length+b.Entries.length) (some (cK a.Entries b.Entries)) (s:=((0:Int),(0:Int),([]:List D.Entry))) (by omega) ⟨0,0,[],rfl,by omega,by omega,by omega,rfl⟩ (λn s rec hn hv=>by
     obtain⟨i,k,o,rfl,hi,hk,hik,ho⟩:=hv
     have hol:o.length<=40:=by have:=congrArg List.length ho;rw[aw] at this;omega
     have hap:∀x:D.Entry,aS o [x]:=λx=>by unfold aS;simp only[dw];omega
     have wi:IntKind.i64.wrap ((i:Int)+1)=((i+1:Nat):Int):=by rw[aH (by omega) (by omega)];rfl
     have wk:IntKind.i64.wrap ((k:Int)+1)=((k+1:Nat):Int):=by rw[aH (by omega) (by omega)];rfl
     rcases fc i a.Entries.length with hi'|hi'
     ·have ne1:((i:Int)==(a.Entries.length:Int))=false:=by simp;omega
      rw[drop_at hi'] at ho
      rcases fc k b.Entries.length with hk'|hk'
      ·have ne2:((k:Int)==(b.Entries.length:Int))=false:=by simp;omega
       rw[drop_at hk',Rc] at ho
       simp only[bY hi',bY hk',ae,bd_s,ne2,ac,aK hi',aK hk',ne1,aA (hap _),wi,wk,aUb]
       cases h1:dE a.Entries[i] b.Entries[k] with
       |true=>
        rw[h1,ae,<-drop_at hk'] at ho
        exact .inl ⟨_,⟨i+1,k,o++[a.Entries[i]],rfl,by omega,hk,by omega,by rw[<-ho];simp⟩,rfl⟩
       |false=>
        cases h2:dE b.Entries[k] a.Entries[i] with
        |true=>
         rw[h1,ac,h2,ae,<-drop_at hi'] at ho
         exact .inl ⟨_,⟨i,k+1,o++[b.Entries[k]],rfl,hi,by omega,by omega,by rw[<-ho];simp⟩,rfl⟩
        |false=>
         rw[h1,ac,h2,ac] at ho
         exact .inl ⟨_,⟨i+1,k+1,o++[qN a.Entries[i] b.Entries[k]],rfl,by omega,by omega,by omega,by rw[<-ho];simp⟩,rfl⟩
      ·have e:k=b.Entries.length:=by omega
       subst e
       rw[di,dJ] at ho
       simp only[bY hi',ae,bd_s,dg,aK hi',aA (hap _),wi]
       exact .inl ⟨_,⟨i+1,_,o++[a.Entries[i]],rfl,by omega,ak _,by omega,by rw[di,dJ,<-ho];simp⟩,rfl⟩
     ·have e:i=a.Entries.length:=by omega
      subst e
      rw[di,jL] at ho
      rcases fc k b.Entries.length with hk'|hk'
      ·have ne2:((k:Int)==(b.Entries.length:Int))=false:=by simp;omega
       simp only[cB,ac,bY hk',bd_s,ae,ne2,dg,aK hk',aA (hap _),wk]
       exact .inl ⟨_,⟨_,k+1,o++[b.Entries[k]],rfl,ak _,by omega,by omega,by rw[di,jL,<-ho,drop_at hk'];simp⟩,rfl⟩
      ·have e2:k=b.Entries.length:=by omega
       subst e2
       rw[di,cI] at ho
       refine .inr ?_
       simp only[cB,ac,bd_s]
       rw[ho]) (λs rec hv=>by
     obtain⟨i,k,o,rfl,hi,hk,hik,ho⟩:=hv
     have e1:i=a.Entries.length:=by omega
     have e2:k=b.Entries.length:=by omega
     subst e1;subst e2
     rw[di,di,dJ,cI] at ho
     simp only[cB,ac,bd_s]
     rw[ho])]
   rw[bd_s,aA (by simp only[D.aAC.sz];omega),bd_s,aA h.1]
   cases aI ⟨cK a.Entries b.Entries⟩<;>rfl
def bBz {w:D.World}(h:w.sz<=34359738368):WOk w:=by
 simp only[D.World.sz] at h
 unfold WOk;omega
end
end Go.VK
