import Derived.Test.YtlnjelnfjgjanaaGreatDoorXqPb
import Derived.Test.YtlnjelnfjgjanaaGreatDoorXqM
/- Printed by wip/tools: models, walks, proofs. -/
set_option linter.all false
set_option maxRecDepth 100000
set_option maxHeartbeats 4000000
namespace Go.VK
open Go.RowKit Go.Proofs
noncomputable section
open EV (cB)
def aIu (a:D.Entry)(s h:Int):Mx a s h=some (sM a s h):=by
 unfold Mx sM
 cases decide (a.Site<s)<;>cases(a.Site==s)<;>rfl
def Wp (a b:D.Entry):xP a b=some (dI a b):=by
 unfold xP dI
 cases decide (a.Site<b.Site)<;>cases(a.Site==b.Site)<;>rfl
def aT4 {l:List D.Entry}{i:Nat}(hi:i<l.length)(hl:l.length<=34359738368){q:D.Entry->Bool}(hq:∀x,q x=dI x l[i]):
  (bif (!bH l[i].Site (0:Int) (2147483646:Int)) then(some (true)) else(bif (!bH l[i].Handle (0:Int) (1000000:Int)) then(some (true)) else(bif (!bH l[i].Version (1:Int) (1000000:Int)) then(some (true)) else(bif (decide ((i:Int)>(0:Int))) then(bd (bD l (IntKind.i64.wrap ((i:Int)-(1:Int)))) λ(z4:(D.Entry))=>some (!q z4)) else(some (false))))))=some (aHj l i l[i]):=by
 unfold aHj
 cases bH l[i].Site 0 2147483646 with
 |false=>rfl
 |true=>
  cases bH l[i].Handle 0 1000000 with
  |false=>rfl
  |true=>
   cases bH l[i].Version 1 1000000 with
   |false=>rfl
   |true=>
    by_cases h0:(i:Int)>0
    ·rw[ao h0,aJ (by omega) (by omega)]
     have hat:bD l ((i:Int)-1)=some l[i-1]:=by
      rw[show(i:Int)-1=((i-1:Nat):Int) by omega];exact aN (by omega)
     have hg:l.getD (i-1) default=l[i-1]:=by rw[List.getD,ae (by omega),cu]
     simp only[hat,bd_s,hq,hg,ay,ab,ac,cC,cA]
    ·rw[ap h0];rfl
def aEl (b:D.aAC)(h:b.sz<=34359738368):Gz b=some (aM b):=by
 simp only[D.aAC.sz] at h
 unfold Gz aM
 rw[iG (l:=b.Entries) (aHj b.Entries) (.inl false) (.inr ()) (by omega) (λrec i hi=>by
  simp only[dB hi,ac,aN hi,bd_s]
  rw[aT4 hi h (q:=λx=>sM x b.Entries[i].Site b.Entries[i].Handle) (λx=>rfl)]
  rfl) (λrec=>by simp only[dF,ab])]
 cases gW (aHj b.Entries) 0 b.Entries with
 |true=>simp[nx]
 |false=>simp[nx]
def aEm (b:D.aAC)(h:b.sz<=34359738368):Hw b=some (aM b):=by
 simp only[D.aAC.sz] at h
 unfold Hw aM
 by_cases h20:(b.Entries.length:Int)>20
 ·rw[ao h20,show decide ((b.Entries.length:Int)<=20)=false from ap (by omega)];rfl
 ·rw[ap h20,show decide ((b.Entries.length:Int)<=20)=true from ao (by omega),ab]
  rw[iG (l:=b.Entries) (aHj b.Entries) (.inl false) (.inr ()) (by omega) (λrec i hi=>by
   simp only[dB hi,ac,aN hi,bd_s]
   rw[aT4 hi h (q:=λx=>dI x b.Entries[i]) (λx=>rfl)]
   rfl) (λrec=>by simp only[dF,ab])]
  cases gW (aHj b.Entries) 0 b.Entries<;>rfl
def aBd (b:D.aAC)(s h:Int)(hz:b.sz<=34359738368):Ci b s h=some (aG b s h):=by
 simp only[D.aAC.sz] at hz
 unfold Ci aG
 exact sI (l:=b.Entries) (λ(e:D.Entry)=>e.Site==s&&e.Handle==h) (by omega) (λrec i hi=>by
  simp only[dB hi,ac,aN hi,bd_s]
  cases(b.Entries[i].Site==s)<;>rfl) (λrec=>by simp only[dF,ab])
def aIv (b:D.aAC)(h:b.sz<=34359738368):Mv b=some (b):=by
 simp only[D.aAC.sz] at h
 unfold Mv
 rw[aB (by unfold aS;simp only[bn];omega)];rfl
def J7 (b:D.aAC)(h:b.sz<=34359738368):zS b=some (b):=by
 simp only[D.aAC.sz] at h
 unfold zS
 rw[aB (by unfold aS;simp only[bn];omega)];rfl
def aYp (p:D.Entry->Bool):∀(l:List D.Entry) (i:Nat),i<=(l.takeWhile p).length->(∃hi:i<l.length,p l[i]=true/\i<(l.takeWhile p).length)\/(i=(l.takeWhile p).length/\∀hi:i<l.length,p l[i]=false)
 |[],i,h=> .inr ⟨by simpa using h,λhi=>by simp at hi⟩
 |x::l,i,h=>by
  rw[dm] at h ⊢
  cases hp:p x with
  |false=>
   rw[hp] at h
   simp at h
   subst h
   exact .inr ⟨by simp,λ_=>hp⟩
  |true=>
   rw[hp] at h
   simp only[io,au] at h ⊢
   cases i with
   |zero=>exact .inl ⟨by simp,hp,by omega⟩
   |succ i=>
    rcases aYp p l i (by omega) with⟨h1,h2,h3⟩|⟨h1,h2⟩
    ·exact .inl ⟨by simpa using h1,h2,by omega⟩
    ·exact .inr ⟨by omega,λhi=>h2 (by simpa using hi)⟩
def aYq (p:D.Entry->Bool):∀l:List D.Entry,l.take (l.takeWhile p).length=l.takeWhile p
 |[]=>rfl
 |x::l=>by
  rw[dm]
  cases p x with
  |false=>rfl
  |true=>simp only[io,au,ip];rw[aYq p l]
def aYr (p:D.Entry->Bool):∀l:List D.Entry,l.drop (l.takeWhile p).length=l.dropWhile p
 |[]=>rfl
 |x::l=>by
  rw[dm,List.dropWhile_cons]
  cases p x with
  |false=>rfl
  |true=>simp only[io,au,gj];rw[aYr p l]
def aL8 (b:D.aAC)(x:D.Entry)(h:b.sz<=34359738360):Ut b x=some (vQ b x):=by
 have h':=h
 simp only[D.aAC.sz] at h
 unfold Ut vQ
 rw[aB (by omega),bd_s,aB (by omega),bd_s]
 by_cases hf:aG b x.Site x.Handle>=0
 ·rw[ao hf,ac,ac]
  have:=aGh (show 0<=iF (λe=>e.Site==x.Site&&e.Handle==x.Handle) 0 b.Entries from hf)
  have hlt:(aG b x.Site x.Handle).toNat<b.Entries.length:=by unfold aG;omega
  rw[Eo hf hlt];rfl
 ·rw[ap hf,ab,ab]
  have htl:(b.Entries.takeWhile λe=>sM e x.Site x.Handle).length<=b.Entries.length:=(List.takeWhile_sublist _).length_le
  rw[aHf (λi s=>i<=(b.Entries.takeWhile λe=>sM e x.Site x.Handle).length/\s=(i:Int)) b.Entries.length (some ((b.Entries.takeWhile λe=>sM e x.Site x.Handle).length:Int)) (s:=(0:Int)) (by omega) ⟨by omega,rfl⟩ (λi s rec hi hv=>by
   obtain⟨h1,rfl⟩:=hv
   rcases aYp _ _ i h1 with⟨g1,g2,g3⟩|⟨g1,g2⟩
   ·refine .inl ⟨_,⟨by omega,rfl⟩,?_⟩
    simp only[dB hi,ac,aN hi,bd_s,g2]
    rw[aJ (by omega) (by omega)];rfl
   ·refine .inr ?_
    simp only[dB hi,ac,aN hi,bd_s,g2 hi,ab]
    rw[<-g1]) (λs rec hv=>by
   obtain⟨h1,rfl⟩:=hv
   have e:b.Entries.length=(b.Entries.takeWhile λe=>sM e x.Site x.Handle).length:=by omega
   simp only[dF,ab,bd_s]
   rw[<-e]),bd_s]
  rw[aB ⟨by omega,by simpa using htl⟩,aB ⟨by omega,by simpa using htl⟩,aB (by unfold aS;simp;omega),aB (by unfold aS;simp;omega),aB (by unfold aS;simp;omega)]
  rw[bv,bm]
  rw[aYq,aYr]
def bBb {l:List D.Entry}{k:Int}(h0:0<=k)(h1:k.toNat<l.length)(x:D.Entry):(bd (bD l k) λ(z9:D.Entry)=>bif (decide (x.Version>z9.Version)) then(some (true)) else(bd (bD l k) λ(z10:D.Entry)=>bif (x.Version==z10.Version) then(some (x.Deleted)) else(some (false))))=some (mV x (l.getD k.toNat default)):=by
 rw[Eo h0 h1,List.getD,ae h1,cu]
 simp only[bd_s]
 unfold mV
 cases decide (x.Version>l[k.toNat].Version)<;>cases(x.Version==l[k.toNat].Version)<;>rfl
def Ri (a b:D.aAC)(h:a.sz<=34359738368/\b.sz<=34359738368):uR a b=some (fB a b):=by
 unfold uR fB
 rw[aB h.1,bd_s]
 cases ha:aM a with
 |false=>rw[aB h.1];rfl
 |true=>
  rw[aB h.2]
  cases hb:aM b with
  |false=>rw[aB h.1];rfl
  |true=>
   obtain⟨la,sa⟩:=aHl ha
   obtain⟨lb,sb⟩:=aHl hb
   rw[aB h.1]
   simp only[ay,ab,ac,bd_s,dt]
   rw[aOg (l:=b.Entries) (s0:=a.Entries) (λo x=>aX o [x]) (λi o=>Qs o/\o.length<=20+i) (λo=>some o) (by omega) ⟨sa,by omega⟩ (λi o hi hv=>by
     have:=vV _ o [b.Entries[i]] (ak _)
     exact⟨aX1 hv.1,by simp only[cW] at this;omega⟩) (λrec i o hi hv=>by
     obtain⟨hs,hl⟩:=hv
     simp only[dB hi,ac,aN hi,bd_s]
     rw[aB (by simp only[D.aAC.sz];omega),bd_s,<-aSz hs]
     have hk:(bif decide (aG ⟨o⟩ b.Entries[i].Site b.Entries[i].Handle<0) then some true else bd (bD o (aG ⟨o⟩ b.Entries[i].Site b.Entries[i].Handle)) λ(z9:D.Entry)=>bif (decide (b.Entries[i].Version>z9.Version)) then(some (true)) else(bd (bD o (aG ⟨o⟩ b.Entries[i].Site b.Entries[i].Handle)) λ(z10:D.Entry)=>bif (b.Entries[i].Version==z10.Version) then(some (b.Entries[i].Deleted)) else(some (false))))=some (decide (aG ⟨o⟩ b.Entries[i].Site b.Entries[i].Handle<0)||mV b.Entries[i] (o.getD (aG ⟨o⟩ b.Entries[i].Site b.Entries[i].Handle).toNat default)):=by
      by_cases hf:aG ⟨o⟩ b.Entries[i].Site b.Entries[i].Handle<0
      ·rw[ao hf];rfl
      ·rw[ap hf,ab]
       have:=aGh (show 0<=iF (λ(e:D.Entry)=>e.Site==b.Entries[i].Site&&e.Handle==b.Entries[i].Handle) 0 o from by unfold aG at hf;simp only at hf;omega)
       rw[bBb (by omega) (by unfold aG;simp only;omega)];rfl
     rw[hk,bd_s]
     cases(decide (aG ⟨o⟩ b.Entries[i].Site b.Entries[i].Handle<0)||mV b.Entries[i] (o.getD (aG ⟨o⟩ b.Entries[i].Site b.Entries[i].Handle).toNat default)) with
     |false=>rfl
     |true=>rw[ac,ac,aB (by simp only[D.aAC.sz];omega)];rfl) (λrec o _=>by simp only[dF,ab])]
   rw[aHk _ _ sb,bd_s]
   have hm:=vV _ a.Entries b.Entries (ak _)
   rw[aB (by simp only[D.aAC.sz];omega),bd_s]
   cases aM ⟨aX a.Entries b.Entries⟩<;>rfl
def drop_at {l:List D.Entry}{i:Nat}(h:i<l.length):l.drop i=l[i]::l.drop (i+1):=cn h
def aWm (e f:D.Entry){X:Int×Int×Int×Bool->Option (List D.Entry)}:(bd (bd (bif (decide (f.Version>e.Version)) then(some (true)) else(bif (f.Version==e.Version) then(some (f.Deleted)) else(some (false)))) λ(z10:Bool)=>bif z10 then(some (f.Site,f.Handle,f.Version,f.Deleted)) else(some (e.Site,e.Handle,e.Version,e.Deleted))) X)=X ((lT e f).Site,(lT e f).Handle,(lT e f).Version,(lT e f).Deleted):=by
 unfold lT mV
 cases decide (f.Version>e.Version)<;>cases(f.Version==e.Version)<;>cases hd:f.Deleted<;>simp[bd,hd]
def Rj (a b:D.aAC)(h:a.sz<=34359738368/\b.sz<=34359738368):uW a b=some (fB a b):=by
 unfold uW fB
 rw[aB h.1,bd_s]
 cases ha:aM a with
 |false=>rw[aB h.1];rfl
 |true=>
  rw[aB h.2]
  cases hb:aM b with
  |false=>rw[aB h.1];rfl
  |true=>
   obtain⟨la,sa⟩:=aHl ha
   obtain⟨lb,sb⟩:=aHl hb
   simp only[ay,ab,ac,bd_s,dt]
   have hm:=vV _ a.Entries b.Entries (ak _)
   rw[aHf (λn s=>∃(i k:Nat) (o:List D.Entry),s=((i:Int),(k:Int),o)/\i<=a.Entries.length/\k<=b.Entries.length/\n<=i+k/\o++aX (a.Entries.drop i) (b.Entries.drop k)=aX a.Entries b.Entries) (a.Entries.length+b.Entries.length) (some (aX a.Entries b.Entries)) (s:=((0:Int),(0:Int),([]:List D.Entry))) (by omega) ⟨0,0,[],rfl,by omega,by omega,by omega,rfl⟩ (λn s rec hn hv=>by
     obtain⟨i,k,o,rfl,hi,hk,hik,ho⟩:=hv
     have hol:o.length<=40:=by have:=congrArg List.length ho;rw[av] at this;omega
     have hap:∀x:D.Entry,aS o [x]:=λx=>by unfold aS;simp only[cW];omega
     have wi:IntKind.i64.wrap ((i:Int)+1)=((i+1:Nat):Int):=by rw[aJ (by omega) (by omega)];rfl
     have wk:IntKind.i64.wrap ((k:Int)+1)=((k+1:Nat):Int):=by rw[aJ (by omega) (by omega)];rfl
     rcases fj i a.Entries.length with hi'|hi'
     ·have ne1:((i:Int)==(a.Entries.length:Int))=false:=by simp;omega
      rw[drop_at hi'] at ho
      rcases fj k b.Entries.length with hk'|hk'
      ·have ne2:((k:Int)==(b.Entries.length:Int))=false:=by simp;omega
       rw[drop_at hk',rA] at ho
       simp only[dB hi',dB hk',ac,bd_s,ne2,ab,aN hi',aN hk',ne1,aB (hap _),wi,wk,aWm]
       cases h1:dI a.Entries[i] b.Entries[k] with
       |true=>
        rw[h1,ac,<-drop_at hk'] at ho
        exact .inl ⟨_,⟨i+1,k,o++[a.Entries[i]],rfl,by omega,hk,by omega,by rw[<-ho];simp⟩,rfl⟩
       |false=>
        cases h2:dI b.Entries[k] a.Entries[i] with
        |true=>
         rw[h1,ab,h2,ac,<-drop_at hi'] at ho
         exact .inl ⟨_,⟨i,k+1,o++[b.Entries[k]],rfl,hi,by omega,by omega,by rw[<-ho];simp⟩,rfl⟩
        |false=>
         rw[h1,ab,h2,ab] at ho
         exact .inl ⟨_,⟨i+1,k+1,o++[lT a.Entries[i] b.Entries[k]],rfl,by omega,by omega,by omega,by rw[<-ho];simp⟩,rfl⟩
      ·have e:k=b.Entries.length:=by omega
       subst e
       rw[dl,dP] at ho
       simp only[dB hi',ac,bd_s,eh,aN hi',aB (hap _),wi]
       exact .inl ⟨_,⟨i+1,_,o++[a.Entries[i]],rfl,by omega,ak _,by omega,by rw[dl,dP,<-ho];simp⟩,rfl⟩
     ·have e:i=a.Entries.length:=by omega
      subst e
      rw[dl,gT] at ho
      rcases fj k b.Entries.length with hk'|hk'
      ·have ne2:((k:Int)==(b.Entries.length:Int))=false:=by simp;omega
       simp only[dF,ab,dB hk',bd_s,ac,ne2,eh,aN hk',aB (hap _),wk]
       exact .inl ⟨_,⟨_,k+1,o++[b.Entries[k]],rfl,ak _,by omega,by omega,by rw[dl,gT,<-ho,drop_at hk'];simp⟩,rfl⟩
      ·have e2:k=b.Entries.length:=by omega
       subst e2
       rw[dl,cP] at ho
       refine .inr ?_
       simp only[dF,ab,bd_s]
       rw[ho]) (λs rec hv=>by
     obtain⟨i,k,o,rfl,hi,hk,hik,ho⟩:=hv
     have e1:i=a.Entries.length:=by omega
     have e2:k=b.Entries.length:=by omega
     subst e1;subst e2
     rw[dl,dl,dP,cP] at ho
     simp only[dF,ab,bd_s]
     rw[ho])]
   rw[bd_s,aB (by simp only[D.aAC.sz];omega),bd_s,aB h.1]
   cases aM ⟨aX a.Entries b.Entries⟩<;>rfl
end
end Go.VK
