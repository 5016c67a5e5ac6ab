import Derived.Test.YtfllllgehgablaaGreatDoorXsPa
import Derived.Test.YtfllllgehgablaaGreatDoorXsM
/- Printed by wip/tools: models, walks, proofs. -/
set_option linter.all false
set_option maxRecDepth 100000
set_option maxHeartbeats 4000000
namespace Go.VK
open Go.RowKit Go.Proofs
noncomputable section
open EV (bU)
def aJe (a:D.Entry)(s h:Int):Mx a s h=some (sJ a s h):=by
 unfold Mx sJ
 cases decide (a.Site<s)<;>cases(a.Site==s)<;>rfl
def Wd (a b:D.Entry):xU a b=some (dI a b):=by
 unfold xU dI
 cases decide (a.Site<b.Site)<;>cases(a.Site==b.Site)<;>rfl
def aVe {l:List D.Entry}{i:Nat}(hi:i<l.length)(hl:l.length<=34359738368){q:D.Entry->Bool}(hq:∀x,q x=dI x l[i]):
  (bif (!bI l[i].Site (0:Int) (2147483646:Int)) then(some (true)) else(bif (!bI l[i].Handle (0:Int) (1000000:Int)) then(some (true)) else(bif (!bI l[i].Version (1:Int) (1000000:Int)) then(some (true)) else(bif (decide ((i:Int)>(0:Int))) then(bd (bA l (IntKind.i64.wrap ((i:Int)-(1:Int)))) λ(z4:(D.Entry))=>some (!q z4)) else(some (false))))))=some (aH9 l i l[i]):=by
 unfold aH9
 cases bI l[i].Site 0 2147483646 with
 |false=>rfl
 |true=>
  cases bI l[i].Handle 0 1000000 with
  |false=>rfl
  |true=>
   cases bI l[i].Version 1 1000000 with
   |false=>rfl
   |true=>
    by_cases h0:(i:Int)>0
    ·rw[ao h0,aI (by omega) (by omega)]
     have hat:bA l ((i:Int)-1)=some l[i-1]:=by
      rw[show(i:Int)-1=((i-1:Nat):Int) by omega];exact aM (by omega)
     have hg:l.getD (i-1) default=l[i-1]:=by rw[List.getD,ac (by omega),cE]
     simp only[hat,bd_s,hq,hg,bf,ab,ae,cL,da]
    ·rw[au h0];rfl
def aE1 (b:D.aAF)(h:b.sz<=34359738368):Ht b=some (aP b):=by
 simp only[D.aAF.sz] at h
 unfold Ht aP
 rw[iH (l:=b.Entries) (aH9 b.Entries) (.inl false) (.inr ()) (by omega) (λrec i hi=>by
  simp only[dL hi,ae,aM hi,bd_s]
  rw[aVe hi h (q:=λx=>sJ x b.Entries[i].Site b.Entries[i].Handle) (λx=>rfl)]
  rfl) (λrec=>by simp only[dP,ab])]
 cases gL (aH9 b.Entries) 0 b.Entries with
 |true=>simp[nx]
 |false=>simp[nx]
def aE2 (b:D.aAF)(h:b.sz<=34359738368):Im b=some (aP b):=by
 simp only[D.aAF.sz] at h
 unfold Im aP
 by_cases h20:(b.Entries.length:Int)>20
 ·rw[ao h20,show decide ((b.Entries.length:Int)<=20)=false from au (by omega)];rfl
 ·rw[au h20,show decide ((b.Entries.length:Int)<=20)=true from ao (by omega),ab]
  rw[iH (l:=b.Entries) (aH9 b.Entries) (.inl false) (.inr ()) (by omega) (λrec i hi=>by
   simp only[dL hi,ae,aM hi,bd_s]
   rw[aVe hi h (q:=λx=>dI x b.Entries[i]) (λx=>rfl)]
   rfl) (λrec=>by simp only[dP,ab])]
  cases gL (aH9 b.Entries) 0 b.Entries<;>rfl
def aBm (b:D.aAF)(s h:Int)(hz:b.sz<=34359738368):Db b s h=some (aK b s h):=by
 simp only[D.aAF.sz] at hz
 unfold Db aK
 exact F7 (l:=b.Entries) (λ(e:D.Entry)=>e.Site==s&&e.Handle==h) (by omega) (λrec i hi=>by
  simp only[dL hi,ae,aM hi,bd_s]
  cases(b.Entries[i].Site==s)<;>rfl) (λrec=>by simp only[dP,ab])
def aJf (b:D.aAF)(h:b.sz<=34359738368):Mv b=some (b):=by
 simp only[D.aAF.sz] at h
 unfold Mv
 rw[aB (by unfold aW;simp only[bo];omega)];rfl
def K9 (b:D.aAF)(h:b.sz<=34359738368):zZ b=some (b):=by
 simp only[D.aAF.sz] at h
 unfold zZ
 rw[aB (by unfold aW;simp only[bo];omega)];rfl
def aZ0 (p:D.Entry->Bool):∀(l:List D.Entry) (i:Nat),i<=(l.takeWhile p).length->(∃hi:i<l.length,p l[i]=true/\i<(l.takeWhile p).length)\/(i=(l.takeWhile p).length/\∀hi:i<l.length,p l[i]=false)
 |[],i,h=> .inr ⟨by simpa using h,λhi=>by simp at hi⟩
 |x::l,i,h=>by
  rw[dh] at h ⊢
  cases hp:p x with
  |false=>
   rw[hp] at h
   simp at h
   subst h
   exact .inr ⟨by simp,λ_=>hp⟩
  |true=>
   rw[hp] at h
   simp only[gy,av] at h ⊢
   cases i with
   |zero=>exact .inl ⟨by simp,hp,by omega⟩
   |succ i=>
    rcases aZ0 p l i (by omega) with⟨h1,h2,h3⟩|⟨h1,h2⟩
    ·exact .inl ⟨by simpa using h1,h2,by omega⟩
    ·exact .inr ⟨by omega,λhi=>h2 (by simpa using hi)⟩
def aZ1 (p:D.Entry->Bool):∀l:List D.Entry,l.take (l.takeWhile p).length=l.takeWhile p
 |[]=>rfl
 |x::l=>by
  rw[dh]
  cases p x with
  |false=>rfl
  |true=>simp only[gy,av,ig];rw[aZ1 p l]
def aZ2 (p:D.Entry->Bool):∀l:List D.Entry,l.drop (l.takeWhile p).length=l.dropWhile p
 |[]=>rfl
 |x::l=>by
  rw[dh,List.dropWhile_cons]
  cases p x with
  |false=>rfl
  |true=>simp only[gy,av,gi];rw[aZ2 p l]
def aMt (b:D.aAF)(x:D.Entry)(h:b.sz<=34359738360):Uj b x=some (vI b x):=by
 have h':=h
 simp only[D.aAF.sz] at h
 unfold Uj vI
 rw[aB (by omega),bd_s,aB (by omega),bd_s]
 by_cases hf:aK b x.Site x.Handle>=0
 ·rw[ao hf,ae,ae]
  have:=aG6 (show 0<=iG (λe=>e.Site==x.Site&&e.Handle==x.Handle) 0 b.Entries from hf)
  have hlt:(aK b x.Site x.Handle).toNat<b.Entries.length:=by unfold aK;omega
  rw[rQ hf hlt];rfl
 ·rw[au hf,ab,ab]
  have htl:(b.Entries.takeWhile λe=>sJ e x.Site x.Handle).length<=b.Entries.length:=(List.takeWhile_sublist _).length_le
  rw[aMg (λi s=>i<=(b.Entries.takeWhile λe=>sJ e x.Site x.Handle).length/\s=(i:Int)) b.Entries.length (some ((b.Entries.takeWhile λe=>sJ e x.Site x.Handle).length:Int)) (s:=(0:Int)) (by omega) ⟨by omega,rfl⟩ (λi s rec hi hv=>by
   obtain⟨h1,rfl⟩:=hv
   rcases aZ0 _ _ i h1 with⟨g1,g2,g3⟩|⟨g1,g2⟩
   ·refine .inl ⟨_,⟨by omega,rfl⟩,?_⟩
    simp only[dL hi,ae,aM hi,bd_s,g2]
    rw[aI (by omega) (by omega)];rfl
   ·refine .inr ?_
    simp only[dL hi,ae,aM hi,bd_s,g2 hi,ab]
    rw[<-g1]) (λs rec hv=>by
   obtain⟨h1,rfl⟩:=hv
   have e:b.Entries.length=(b.Entries.takeWhile λe=>sJ e x.Site x.Handle).length:=by omega
   simp only[dP,ab,bd_s]
   rw[<-e]),bd_s]
  rw[aB ⟨by omega,by simpa using htl⟩,aB ⟨by omega,by simpa using htl⟩,aB (by unfold aW;simp;omega),aB (by unfold aW;simp;omega),aB (by unfold aW;simp;omega)]
  rw[cm,bn]
  rw[aZ1,aZ2]
def bCj {l:List D.Entry}{k:Int}(h0:0<=k)(h1:k.toNat<l.length)(x:D.Entry):(bd (bA l k) λ(z9:D.Entry)=>bif (decide (x.Version>z9.Version)) then(some (true)) else(bd (bA l k) λ(z10:D.Entry)=>bif (x.Version==z10.Version) then(some (x.Deleted)) else(some (false))))=some (mV x (l.getD k.toNat default)):=by
 rw[rQ h0 h1,List.getD,ac h1,cE]
 simp only[bd_s]
 unfold mV
 cases decide (x.Version>l[k.toNat].Version)<;>cases(x.Version==l[k.toNat].Version)<;>rfl
def Rb (a b:D.aAF)(h:a.sz<=34359738368/\b.sz<=34359738368):uI a b=some (gG a b):=by
 unfold uI gG
 rw[aB h.1,bd_s]
 cases ha:aP a with
 |false=>rw[aB h.1];rfl
 |true=>
  rw[aB h.2]
  cases hb:aP b with
  |false=>rw[aB h.1];rfl
  |true=>
   obtain⟨la,sa⟩:=aRj ha
   obtain⟨lb,sb⟩:=aRj hb
   rw[aB h.1]
   simp only[bf,ab,ae,bd_s,dw]
   rw[aO8 (l:=b.Entries) (s0:=a.Entries) (λo x=>bS o [x]) (λi o=>srt o/\o.length<=20+i) (λo=>some o) (by omega) ⟨sa,by omega⟩ (λi o hi hv=>by
     have:=vO _ o [b.Entries[i]] (aj _)
     exact⟨aZg hv.1,by simp only[ct] at this;omega⟩) (λrec i o hi hv=>by
     obtain⟨hs,hl⟩:=hv
     simp only[dL hi,ae,aM hi,bd_s]
     rw[aB (by simp only[D.aAF.sz];omega),bd_s,<-aT8 hs]
     have hk:(bif decide (aK ⟨o⟩ b.Entries[i].Site b.Entries[i].Handle<0) then some true else bd (bA o (aK ⟨o⟩ b.Entries[i].Site b.Entries[i].Handle)) λ(z9:D.Entry)=>bif (decide (b.Entries[i].Version>z9.Version)) then(some (true)) else(bd (bA o (aK ⟨o⟩ b.Entries[i].Site b.Entries[i].Handle)) λ(z10:D.Entry)=>bif (b.Entries[i].Version==z10.Version) then(some (b.Entries[i].Deleted)) else(some (false))))=some (decide (aK ⟨o⟩ b.Entries[i].Site b.Entries[i].Handle<0)||mV b.Entries[i] (o.getD (aK ⟨o⟩ b.Entries[i].Site b.Entries[i].Handle).toNat default)):=by
      by_cases hf:aK ⟨o⟩ b.Entries[i].Site b.Entries[i].Handle<0
      ·rw[ao hf];rfl
      ·rw[au hf,ab]
       have:=aG6 (show 0<=iG (λ(e:D.Entry)=>e.Site==b.Entries[i].Site&&e.Handle==b.Entries[i].Handle) 0 o from by unfold aK at hf;simp only at hf;omega)
       rw[bCj (by omega) (by unfold aK;simp only;omega)];rfl
     rw[hk,bd_s]
     cases(decide (aK ⟨o⟩ b.Entries[i].Site b.Entries[i].Handle<0)||mV b.Entries[i] (o.getD (aK ⟨o⟩ b.Entries[i].Site b.Entries[i].Handle).toNat default)) with
     |false=>rfl
     |true=>rw[ae,ae,aB (by simp only[D.aAF.sz];omega)];rfl) (λrec o _=>by simp only[dP,ab])]
   rw[aIa _ _ sb,bd_s]
   have hm:=vO _ a.Entries b.Entries (aj _)
   rw[aB (by simp only[D.aAF.sz];omega),bd_s]
   cases aP ⟨bS a.Entries b.Entries⟩<;>rfl
def drop_at {l:List D.Entry}{i:Nat}(h:i<l.length):l.drop i=l[i]::l.drop (i+1):=co h
def aXw (e f:D.Entry){X:Int×Int×Int×Bool->Option (List D.Entry)}:(bd (bd (bif (decide (f.Version>e.Version)) then(some (true)) else(bif (f.Version==e.Version) then(some (f.Deleted)) else(some (false)))) λ(z10:Bool)=>bif z10 then(some (f.Site,f.Handle,f.Version,f.Deleted)) else(some (e.Site,e.Handle,e.Version,e.Deleted))) X)=X ((nZ e f).Site,(nZ e f).Handle,(nZ e f).Version,(nZ e f).Deleted):=by
 unfold nZ mV
 cases decide (f.Version>e.Version)<;>cases(f.Version==e.Version)<;>cases hd:f.Deleted<;>simp[bd,hd]
def Rc (a b:D.aAF)(h:a.sz<=34359738368/\b.sz<=34359738368):uQ a b=some (gG a b):=by
 unfold uQ gG
 rw[aB h.1,bd_s]
 cases ha:aP a with
 |false=>rw[aB h.1];rfl
 |true=>
  rw[aB h.2]
  cases hb:aP b with
  |false=>rw[aB h.1];rfl
  |true=>
   obtain⟨la,sa⟩:=aRj ha
   obtain⟨lb,sb⟩:=aRj hb
   simp only[bf,ab,ae,bd_s,dw]
   have hm:=vO _ a.Entries b.Entries (aj _)
   rw[aMg (λn s=>∃(i k:Nat) (o:List D.Entry),s=((i:Int),(k:Int),o)/\i<=a.Entries.length/\k<=b.Entries.length/\n<=i+k/\o++bS (a.Entries.drop i) (b.Entries.drop k)=bS a.Entries b.Entries) (a.Entries.length+b.Entries.length) (some (bS a.Entries b.Entries)) (s:=((0:Int),(0:Int),([]:List D.Entry))) (by omega) ⟨0,0,[],rfl,by omega,by omega,by omega,rfl⟩ (λn s rec hn hv=>by
     obtain⟨i,k,o,rfl,hi,hk,hik,ho⟩:=hv
     have hol:o.length<=40:=by have:=congrArg List.length ho;rw[aw] at this;omega
     have hap:∀x:D.Entry,aW o [x]:=λx=>by unfold aW;simp only[ct];omega
     have wi:IntKind.i64.wrap ((i:Int)+1)=((i+1:Nat):Int):=by rw[aI (by omega) (by omega)];rfl
     have wk:IntKind.i64.wrap ((k:Int)+1)=((k+1:Nat):Int):=by rw[aI (by omega) (by omega)];rfl
     rcases fx i a.Entries.length with hi'|hi'
     ·have ne1:((i:Int)==(a.Entries.length:Int))=false:=by simp;omega
      rw[drop_at hi'] at ho
      rcases fx k b.Entries.length with hk'|hk'
      ·have ne2:((k:Int)==(b.Entries.length:Int))=false:=by simp;omega
       rw[drop_at hk',rE] at ho
       simp only[dL hi',dL hk',ae,bd_s,ne2,ab,aM hi',aM hk',ne1,aB (hap _),wi,wk,aXw]
       cases h1:dI a.Entries[i] b.Entries[k] with
       |true=>
        rw[h1,ae,<-drop_at hk'] at ho
        exact .inl ⟨_,⟨i+1,k,o++[a.Entries[i]],rfl,by omega,hk,by omega,by rw[<-ho];simp⟩,rfl⟩
       |false=>
        cases h2:dI b.Entries[k] a.Entries[i] with
        |true=>
         rw[h1,ab,h2,ae,<-drop_at hi'] at ho
         exact .inl ⟨_,⟨i,k+1,o++[b.Entries[k]],rfl,hi,by omega,by omega,by rw[<-ho];simp⟩,rfl⟩
        |false=>
         rw[h1,ab,h2,ab] at ho
         exact .inl ⟨_,⟨i+1,k+1,o++[nZ a.Entries[i] b.Entries[k]],rfl,by omega,by omega,by omega,by rw[<-ho];simp⟩,rfl⟩
      ·have e:k=b.Entries.length:=by omega
       subst e
       rw[dz,dN] at ho
       simp only[dL hi',ae,bd_s,dx,aM hi',aB (hap _),wi]
       exact .inl ⟨_,⟨i+1,_,o++[a.Entries[i]],rfl,by omega,aj _,by omega,by rw[dz,dN,<-ho];simp⟩,rfl⟩
     ·have e:i=a.Entries.length:=by omega
      subst e
      rw[dz,gV] at ho
      rcases fx k b.Entries.length with hk'|hk'
      ·have ne2:((k:Int)==(b.Entries.length:Int))=false:=by simp;omega
       simp only[dP,ab,dL hk',bd_s,ae,ne2,dx,aM hk',aB (hap _),wk]
       exact .inl ⟨_,⟨_,k+1,o++[b.Entries[k]],rfl,aj _,by omega,by omega,by rw[dz,gV,<-ho,drop_at hk'];simp⟩,rfl⟩
      ·have e2:k=b.Entries.length:=by omega
       subst e2
       rw[dz,cW] at ho
       refine .inr ?_
       simp only[dP,ab,bd_s]
       rw[ho]) (λs rec hv=>by
     obtain⟨i,k,o,rfl,hi,hk,hik,ho⟩:=hv
     have e1:i=a.Entries.length:=by omega
     have e2:k=b.Entries.length:=by omega
     subst e1;subst e2
     rw[dz,dz,dN,cW] at ho
     simp only[dP,ab,bd_s]
     rw[ho])]
   rw[bd_s,aB (by simp only[D.aAF.sz];omega),bd_s,aB h.1]
   cases aP ⟨bS a.Entries b.Entries⟩<;>rfl
end
end Go.VK
