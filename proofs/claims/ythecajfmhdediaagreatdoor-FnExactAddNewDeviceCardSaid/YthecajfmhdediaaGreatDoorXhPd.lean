import Derived.Test.YthecajfmhdediaaGreatDoorXhPa
import Derived.Test.YthecajfmhdediaaGreatDoorXhQ
/- Printed by wip/tools: models, walks, proofs. -/
set_option linter.unusedVariables false
set_option linter.unusedSimpArgs false
set_option maxRecDepth 100000
set_option maxHeartbeats 4000000
namespace Go.VK
open Go.RowKit Go.Proofs
noncomputable section
open EV (bX)
theorem aPu (a:D.Entry)(s h:Int):Pv a s h=some (iO a s h):=by
 unfold Pv iO
 cases decide (a.Site<s)<;>cases(a.Site==s)<;>rfl
theorem D7 (a b:D.Entry):wT a b=some (eF a b):=by
 unfold wT eF
 cases decide (a.Site<b.Site)<;>cases(a.Site==b.Site)<;>rfl
theorem bAo {l:List D.Entry}{i:Nat}(hi:i<l.length)(hl:l.length≤34359738368){q:D.Entry→Bool}(hq:∀x,q x=eF x l[i]):
  (bif (!dI l[i].Site (0:Int) (2147483646:Int)) then(some (true)) else(bif (!dI l[i].Handle (0:Int) (1000000:Int)) then(some (true)) else(bif (!dI l[i].Version (1:Int) (1000000:Int)) then(some (true)) else(bif (decide ((i:Int)>(0:Int))) then(bd (aP l (IntKind.i64.wrap ((i:Int)-(1:Int)))) fun(z4:(D.Entry))=>some (!q z4)) else(some (false))))))=some (Z4 l i l[i]):=by
 unfold Z4
 cases dI l[i].Site 0 2147483646 with
 |false=>rfl
 |true=>
  cases dI l[i].Handle 0 1000000 with
  |false=>rfl
  |true=>
   cases dI l[i].Version 1 1000000 with
   |false=>rfl
   |true=>
    by_cases h0:(i:Int)>0
    ·rw[decide_eq_true h0,aR (by omega) (by omega)]
     have hat:aP l ((i:Int)-1)=some l[i-1]:=by
      rw[show(i:Int)-1=((i-1:Nat):Int) by omega];exact aH (by omega)
     have hg:l.getD (i-1) default=l[i-1]:=by rw[List.getD,List.getElem?_eq_getElem (by omega),Option.getD_some]
     simp only[hat,bd_s,hq,hg,Bool.not_true,cond_false,cond_true,Bool.false_or,Bool.true_and]
    ·rw[decide_eq_false h0];rfl
theorem aKq (b:D.aAC)(h:b.sz≤34359738368):Jf b=some (aK b):=by
 simp only[D.aAC.sz] at h
 unfold Jf aK
 rw[iL (l:=b.Entries) (Z4 b.Entries) (.inl false) (.inr ()) (by omega) (fun rec i hi=>by
  simp only[bH hi,cond_true,aH hi,bd_s]
  rw[bAo hi h (q:=fun x=>iO x b.Entries[i].Site b.Entries[i].Handle) (fun x=>rfl)]
  rfl) (fun rec=>by simp only[bJ,cond_false])]
 cases kI (Z4 b.Entries) 0 b.Entries with
 |true=>simp[nx]
 |false=>simp[nx]
theorem aKr (b:D.aAC)(h:b.sz≤34359738368):Jn b=some (aK b):=by
 simp only[D.aAC.sz] at h
 unfold Jn aK
 by_cases h20:(b.Entries.length:Int)>20
 ·rw[decide_eq_true h20,show decide ((b.Entries.length:Int)≤20)=false from decide_eq_false (by omega)];rfl
 ·rw[decide_eq_false h20,show decide ((b.Entries.length:Int)≤20)=true from decide_eq_true (by omega),cond_false]
  rw[iL (l:=b.Entries) (Z4 b.Entries) (.inl false) (.inr ()) (by omega) (fun rec i hi=>by
   simp only[bH hi,cond_true,aH hi,bd_s]
   rw[bAo hi h (q:=fun x=>eF x b.Entries[i]) (fun x=>rfl)]
   rfl) (fun rec=>by simp only[bJ,cond_false])]
  cases kI (Z4 b.Entries) 0 b.Entries<;>rfl
theorem aFo (b:D.aAC)(s h:Int)(hz:b.sz≤34359738368):Cn b s h=some (aJ b s h):=by
 simp only[D.aAC.sz] at hz
 unfold Cn aJ
 exact Y9 (l:=b.Entries) (fun(e:D.Entry)=>e.Site==s&&e.Handle==h) (by omega) (fun rec i hi=>by
  simp only[bH hi,cond_true,aH hi,bd_s]
  cases(b.Entries[i].Site==s)<;>rfl) (fun rec=>by simp only[bJ,cond_false])
theorem aPv (b:D.aAC)(h:b.sz≤34359738368):Ox b=some (b):=by
 simp only[D.aAC.sz] at h
 unfold Ox
 rw[aD (by unfold bI;simp only[List.length_nil];omega)];rfl
theorem aAv (b:D.aAC)(h:b.sz≤34359738368):zM b=some (b):=by
 simp only[D.aAC.sz] at h
 unfold zM
 rw[aD (by unfold bI;simp only[List.length_nil];omega)];rfl
theorem aM6 (p:D.Entry→Bool):∀(l:List D.Entry) (i:Nat),i≤(l.takeWhile p).length→(∃hi:i<l.length,p l[i]=true∧i<(l.takeWhile p).length)∨(i=(l.takeWhile p).length∧∀hi:i<l.length,p l[i]=false)
 |[],i,h=> .inr ⟨by simpa using h,fun hi=>by simp at hi⟩
 |x::l,i,h=>by
  rw[List.takeWhile_cons] at h ⊢
  cases hp:p x with
  |false=>
   rw[hp] at h
   simp at h
   subst h
   exact .inr ⟨by simp,fun _=>hp⟩
  |true=>
   rw[hp] at h
   simp only[if_true,List.length_cons] at h ⊢
   cases i with
   |zero=>exact .inl ⟨by simp,hp,by omega⟩
   |succ i=>
    rcases aM6 p l i (by omega) with⟨h1,h2,h3⟩|⟨h1,h2⟩
    ·exact .inl ⟨by simpa using h1,h2,by omega⟩
    ·exact .inr ⟨by omega,fun hi=>h2 (by simpa using hi)⟩
theorem bDo (p:D.Entry→Bool):∀l:List D.Entry,l.take (l.takeWhile p).length=l.takeWhile p
 |[]=>rfl
 |x::l=>by
  rw[List.takeWhile_cons]
  cases p x with
  |false=>rfl
  |true=>simp only[if_true,List.length_cons,List.take_succ_cons];rw[bDo p l]
theorem bDp (p:D.Entry→Bool):∀l:List D.Entry,l.drop (l.takeWhile p).length=l.dropWhile p
 |[]=>rfl
 |x::l=>by
  rw[List.takeWhile_cons,List.dropWhile_cons]
  cases p x with
  |false=>rfl
  |true=>simp only[if_true,List.length_cons,List.drop_succ_cons];rw[bDp p l]
theorem aT3 (b:D.aAC)(x:D.Entry)(h:b.sz≤34359738360):Yv b x=some (nS b x):=by
 have h':=h
 simp only[D.aAC.sz] at h
 unfold Yv nS
 rw[aD (by omega),bd_s,aD (by omega),bd_s]
 by_cases hf:aJ b x.Site x.Handle≥0
 ·rw[decide_eq_true hf,cond_true,cond_true]
  have:=aNf (show 0≤kD (fun e=>e.Site==x.Site&&e.Handle==x.Handle) 0 b.Entries from hf)
  have hlt:(aJ b x.Site x.Handle).toNat<b.Entries.length:=by unfold aJ;omega
  rw[uO hf hlt];rfl
 ·rw[decide_eq_false hf,cond_false,cond_false]
  have htl:(b.Entries.takeWhile fun e=>iO e x.Site x.Handle).length≤b.Entries.length:=(List.takeWhile_sublist _).length_le
  rw[Zv (fun i s=>i≤(b.Entries.takeWhile fun e=>iO e x.Site x.Handle).length∧s=(i:Int)) b.Entries.length (some ((b.Entries.takeWhile fun e=>iO e x.Site x.Handle).length:Int)) (s:=(0:Int)) (by omega) ⟨by omega,rfl⟩ (fun i s rec hi hv=>by
   obtain⟨h1,rfl⟩:=hv
   rcases aM6 _ _ i h1 with⟨g1,g2,g3⟩|⟨g1,g2⟩
   ·refine .inl ⟨_,⟨by omega,rfl⟩,?_⟩
    simp only[bH hi,cond_true,aH hi,bd_s,g2]
    rw[aR (by omega) (by omega)];rfl
   ·refine .inr ?_
    simp only[bH hi,cond_true,aH hi,bd_s,g2 hi,cond_false]
    rw[←g1]) (fun s rec hv=>by
   obtain⟨h1,rfl⟩:=hv
   have e:b.Entries.length=(b.Entries.takeWhile fun e=>iO e x.Site x.Handle).length:=by omega
   simp only[bJ,cond_false,bd_s]
   rw[←e]),bd_s]
  rw[aD ⟨by omega,by simpa using htl⟩,aD ⟨by omega,by simpa using htl⟩,aD (by unfold bI;simp;omega),aD (by unfold bI;simp;omega),aD (by unfold bI;simp;omega)]
  rw[Int.toNat_natCast,List.nil_append]
  rw[bDo,bDp]
theorem bFj {l:List D.Entry}{k:Int}(h0:0≤k)(h1:k.toNat<l.length)(x:D.Entry):(bd (aP l k) fun(z9:D.Entry)=>bif (decide (x.Version>z9.Version)) then(some (true)) else(bd (aP l k) fun(z10:D.Entry)=>bif (x.Version==z10.Version) then(some (x.Deleted)) else(some (false))))=some (vQ x (l.getD k.toNat default)):=by
 rw[uO h0 h1,List.getD,List.getElem?_eq_getElem h1,Option.getD_some]
 simp only[bd_s]
 unfold vQ
 cases decide (x.Version>l[k.toNat].Version)<;>cases(x.Version==l[k.toNat].Version)<;>rfl
theorem Ux (a b:D.aAC)(h:a.sz≤34359738368∧b.sz≤34359738368):tO a b=some (kY a b):=by
 unfold tO kY
 rw[aD h.1,bd_s]
 cases ha:aK a with
 |false=>rw[aD h.1];rfl
 |true=>
  rw[aD h.2]
  cases hb:aK b with
  |false=>rw[aD h.1];rfl
  |true=>
   obtain⟨la,sa⟩:=aXr ha
   obtain⟨lb,sb⟩:=aXr hb
   rw[aD h.1]
   simp only[Bool.not_true,cond_false,cond_true,bd_s,Bool.and_self]
   rw[aV2 (l:=b.Entries) (s0:=a.Entries) (fun o x=>dU o [x]) (fun i o=>srt o∧o.length≤20+i) (fun o=>some o) (by omega) ⟨sa,by omega⟩ (fun i o hi hv=>by
     have:=uY _ o [b.Entries[i]] (Nat.le_refl _)
     exact⟨bDe hv.1,by simp only[List.length_singleton] at this;omega⟩) (fun rec i o hi hv=>by
     obtain⟨hs,hl⟩:=hv
     simp only[bH hi,cond_true,aH hi,bd_s]
     rw[aD (by simp only[D.aAC.sz];omega),bd_s,←bHb hs]
     have hk:(bif decide (aJ ⟨o⟩ b.Entries[i].Site b.Entries[i].Handle<0) then some true else bd (aP o (aJ ⟨o⟩ b.Entries[i].Site b.Entries[i].Handle)) fun(z9:D.Entry)=>bif (decide (b.Entries[i].Version>z9.Version)) then(some (true)) else(bd (aP o (aJ ⟨o⟩ b.Entries[i].Site b.Entries[i].Handle)) fun(z10:D.Entry)=>bif (b.Entries[i].Version==z10.Version) then(some (b.Entries[i].Deleted)) else(some (false))))=some (decide (aJ ⟨o⟩ b.Entries[i].Site b.Entries[i].Handle<0)||vQ b.Entries[i] (o.getD (aJ ⟨o⟩ b.Entries[i].Site b.Entries[i].Handle).toNat default)):=by
      by_cases hf:aJ ⟨o⟩ b.Entries[i].Site b.Entries[i].Handle<0
      ·rw[decide_eq_true hf];rfl
      ·rw[decide_eq_false hf,cond_false]
       have:=aNf (show 0≤kD (fun(e:D.Entry)=>e.Site==b.Entries[i].Site&&e.Handle==b.Entries[i].Handle) 0 o from by unfold aJ at hf;simp only at hf;omega)
       rw[bFj (by omega) (by unfold aJ;simp only;omega)];rfl
     rw[hk,bd_s]
     cases(decide (aJ ⟨o⟩ b.Entries[i].Site b.Entries[i].Handle<0)||vQ b.Entries[i] (o.getD (aJ ⟨o⟩ b.Entries[i].Site b.Entries[i].Handle).toNat default)) with
     |false=>rfl
     |true=>rw[cond_true,cond_true,aD (by simp only[D.aAC.sz];omega)];rfl) (fun rec o _=>by simp only[bJ,cond_false])]
   rw[aOh _ _ sb,bd_s]
   have hm:=uY _ a.Entries b.Entries (Nat.le_refl _)
   rw[aD (by simp only[D.aAC.sz];omega),bd_s]
   cases aK ⟨dU a.Entries b.Entries⟩<;>rfl
theorem drop_at {l:List D.Entry}{i:Nat}(h:i<l.length):l.drop i=l[i]::l.drop (i+1):=List.drop_eq_getElem_cons h
theorem bCe (e f:D.Entry){X:Int×Int×Int×Bool→Option (List D.Entry)}:(bd (bd (bif (decide (f.Version>e.Version)) then(some (true)) else(bif (f.Version==e.Version) then(some (f.Deleted)) else(some (false)))) fun(z10:Bool)=>bif z10 then(some (f.Site,f.Handle,f.Version,f.Deleted)) else(some (e.Site,e.Handle,e.Version,e.Deleted))) X)=X ((sQ e f).Site,(sQ e f).Handle,(sQ e f).Version,(sQ e f).Deleted):=by
 unfold sQ vQ
 cases decide (f.Version>e.Version)<;>cases(f.Version==e.Version)<;>cases hd:f.Deleted<;>simp[bd,hd]
theorem Uy (a b:D.aAC)(h:a.sz≤34359738368∧b.sz≤34359738368):uA a b=some (kY a b):=by
 unfold uA kY
 rw[aD h.1,bd_s]
 cases ha:aK a with
 |false=>rw[aD h.1];rfl
 |true=>
  rw[aD h.2]
  cases hb:aK b with
  |false=>rw[aD h.1];rfl
  |true=>
   obtain⟨la,sa⟩:=aXr ha
   obtain⟨lb,sb⟩:=aXr hb
   simp only[Bool.not_true,cond_false,cond_true,bd_s,Bool.and_self]
   have hm:=uY _ a.Entries b.Entries (Nat.le_refl _)
   rw[Zv (fun n s=>∃(i k:Nat) (o:List D.Entry),s=((i:Int),(k:Int),o)∧i≤a.Entries.length∧k≤b.Entries.length∧n≤i+k∧o++dU (a.Entries.drop i) (b.Entries.drop k)=dU a.Entries b.Entries) (a.Entries.length+b.Entries.length) (some (dU a.Entries b.Entries)) (s:=((0:Int),(0:Int),([]:List D.Entry))) (by omega) ⟨0,0,[],rfl,by omega,by omega,by omega,rfl⟩ (fun n s rec hn hv=>by
     obtain⟨i,k,o,rfl,hi,hk,hik,ho⟩:=hv
     have hol:o.length≤40:=by have:=congrArg List.length ho;rw[List.length_append] at this;omega
     have hap:∀x:D.Entry,bI o [x]:=fun x=>by unfold bI;simp only[List.length_singleton];omega
     have wi:IntKind.i64.wrap ((i:Int)+1)=((i+1:Nat):Int):=by rw[aR (by omega) (by omega)];rfl
     have wk:IntKind.i64.wrap ((k:Int)+1)=((k+1:Nat):Int):=by rw[aR (by omega) (by omega)];rfl
     rcases Nat.lt_or_ge i a.Entries.length with hi'|hi'
     ·have ne1:((i:Int)==(a.Entries.length:Int))=false:=by simp;omega
      rw[drop_at hi'] at ho
      rcases Nat.lt_or_ge k b.Entries.length with hk'|hk'
      ·have ne2:((k:Int)==(b.Entries.length:Int))=false:=by simp;omega
       rw[drop_at hk',o5] at ho
       simp only[bH hi',bH hk',cond_true,bd_s,ne2,cond_false,aH hi',aH hk',ne1,aD (hap _),wi,wk,bCe]
       cases h1:eF a.Entries[i] b.Entries[k] with
       |true=>
        rw[h1,cond_true,←drop_at hk'] at ho
        exact .inl ⟨_,⟨i+1,k,o++[a.Entries[i]],rfl,by omega,hk,by omega,by rw[←ho];simp⟩,rfl⟩
       |false=>
        cases h2:eF b.Entries[k] a.Entries[i] with
        |true=>
         rw[h1,cond_false,h2,cond_true,←drop_at hi'] at ho
         exact .inl ⟨_,⟨i,k+1,o++[b.Entries[k]],rfl,hi,by omega,by omega,by rw[←ho];simp⟩,rfl⟩
        |false=>
         rw[h1,cond_false,h2,cond_false] at ho
         exact .inl ⟨_,⟨i+1,k+1,o++[sQ a.Entries[i] b.Entries[k]],rfl,by omega,by omega,by omega,by rw[←ho];simp⟩,rfl⟩
      ·have e:k=b.Entries.length:=by omega
       subst e
       rw[List.drop_length,fC] at ho
       simp only[bH hi',cond_true,bd_s,beq_self_eq_true,aH hi',aD (hap _),wi]
       exact .inl ⟨_,⟨i+1,_,o++[a.Entries[i]],rfl,by omega,Nat.le_refl _,by omega,by rw[List.drop_length,fC,←ho];simp⟩,rfl⟩
     ·have e:i=a.Entries.length:=by omega
      subst e
      rw[List.drop_length,jY] at ho
      rcases Nat.lt_or_ge k b.Entries.length with hk'|hk'
      ·have ne2:((k:Int)==(b.Entries.length:Int))=false:=by simp;omega
       simp only[bJ,cond_false,bH hk',bd_s,cond_true,ne2,beq_self_eq_true,aH hk',aD (hap _),wk]
       exact .inl ⟨_,⟨_,k+1,o++[b.Entries[k]],rfl,Nat.le_refl _,by omega,by omega,by rw[List.drop_length,jY,←ho,drop_at hk'];simp⟩,rfl⟩
      ·have e2:k=b.Entries.length:=by omega
       subst e2
       rw[List.drop_length,List.append_nil] at ho
       refine .inr ?_
       simp only[bJ,cond_false,bd_s]
       rw[ho]) (fun s rec hv=>by
     obtain⟨i,k,o,rfl,hi,hk,hik,ho⟩:=hv
     have e1:i=a.Entries.length:=by omega
     have e2:k=b.Entries.length:=by omega
     subst e1;subst e2
     rw[List.drop_length,List.drop_length,fC,List.append_nil] at ho
     simp only[bJ,cond_false,bd_s]
     rw[ho])]
   rw[bd_s,aD (by simp only[D.aAC.sz];omega),bd_s,aD h.1]
   cases aK ⟨dU a.Entries b.Entries⟩<;>rfl
end
end Go.VK
