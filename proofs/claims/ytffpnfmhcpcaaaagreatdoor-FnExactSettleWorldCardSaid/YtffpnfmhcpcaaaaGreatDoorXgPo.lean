import Derived.Test.YtffpnfmhcpcaaaaGreatDoorXgPm
import Derived.Test.YtffpnfmhcpcaaaaGreatDoorXgQ
/-
  Printed by wip/tools (own work of this part): models of functions, walks over the value kit, and proofs.
-/
set_option linter.unusedVariables false
set_option linter.unusedSimpArgs false
set_option maxRecDepth 100000
set_option maxHeartbeats 4000000
namespace Go.VK
open Go.RowKit Go.Proofs
noncomputable section
open EV (bW)
theorem aJs (l:List D.LogEntry)(h:l.length≤34359738368):Kk l=some (eO l):=by
 unfold Kk
 rw[fH (l:=l) (fun n e=>bif e.Kind==2 then IntKind.i64.wrap (n+1) else n) (fun _ _=>True) (fun s=>some s) (by omega) trivial (fun _ _ _ _=>trivial) (fun rec i s hi _=>by
  simp only[bD hi,cond_true,aG hi,bd_s,kQ]) (fun rec s _=>by simp only[bE,cond_false])]
 rfl
theorem aJt (l:List D.LogEntry)(h:l.length≤34359738368):Ky l=some (eO l):=by
 unfold Ky
 rw[fH (l:=l) (fun n e=>bif e.Kind==2 then IntKind.i64.wrap (n+1) else n) (fun _ _=>True) (fun s=>some s) (by omega) trivial (fun _ _ _ _=>trivial) (fun rec i s hi _=>by
  simp only[bD hi,cond_true,aG hi,bd_s,kQ]) (fun rec s _=>by simp only[bE,cond_false])]
 rfl
theorem aNl (p e:Int):Tc p e=some (jU p e):=by unfold Tc;rw[aH (by simp)];rfl
theorem aNm (p e:Int):Sq p e=some (jU p e):=by unfold Sq;rw[aH (by simp)];rfl
theorem aNn (k:Int)(b:D.Box)(h:b.Data.length≤34359738200):Sr k b=some (aDx k b):=by
 unfold Sr aDx
 rw[aH (by omega),bd_s,aH (by simp[bO,xS];omega),aH (by simp[xS];omega)];rfl
theorem aNo (k:Int)(b:D.Box)(h:b.Data.length≤34359738200):Td k b=some (aDx k b):=by
 unfold Td aDx
 rw[aH (by omega),bd_s,aH (by simp[sH,xS];omega),bd_s,aH (by simp[xS,lI];omega)]
 simp[lI]
theorem aAm {α β:Type}{y:Nat→α→β}:∀{l:List α} {j i:Nat} (hi:i<l.length),Oo (fun i x=>[y i x]) j (l.take (i+1))=Oo (fun i x=>[y i x]) j (l.take i)++[y (j+i) l[i]]
 |x::xs,j,0,_=>by simp[Oo]
 |x::xs,j,i+1,hi=>by
  have:=aAm (y:=y) (l:=xs) (j:=j+1) (i:=i) (by simpa using hi)
  simp only[List.take_succ_cons,Oo,List.getElem_cons_succ,this,List.cons_append,List.nil_append]
  rw[show j+1+i=j+(i+1) by omega]
theorem aWp {k:Int}{b:List Int}(hl:b.length≤34359738368){F:(List Int×Nat→Option (List Int))→List Int×Nat→Option (List Int)}
  (hF:∀rec i s (hi:i<b.length),s.length≤34359738368→F rec (s,i)=rec (s++[aQz k i b[i]],i+1)) (hE:∀rec s,F rec (s,b.length)=some s):bW FUEL F ([],0)=some (S9 k b):=by
 refine Oq (fun i s=>i≤b.length∧s=(Oo (fun i z=>[aQz k i z]) 0 (b.take i),i)) b.length _ (by omega) ⟨by omega,by simp[Oo]⟩ (fun i s rec hi hv=> ?_) (fun s rec hv=> ?_)
 ·obtain⟨_,rfl⟩:=hv
  refine .inl ⟨_,⟨hi,rfl⟩,?_⟩
  rw[hF rec i _ hi (by rw[Ir,List.length_take];omega),aAm hi,Nat.zero_add]
 ·obtain⟨_,rfl⟩:=hv
  rw[hE,List.take_length];rfl
theorem aJu (k:Int)(b:List Int)(h:b.length≤34359738368):Kl k b=some (S9 k b):=by
 unfold Kl
 rw[aWp (k:=k) h (fun rec i s hi hs=>by
  have e:=aZ1 k i b[i]
  have h4:((256:Int)≠0)=True:=by simp
  simp only[bD hi,cond_true,aG hi,bd_s,aH (show([(i:Int)]:List Int).length≤34359738368 by simp),h4,gd_T,e,fM hs]) (fun rec s=>by simp only[bE,cond_false])]
 rfl
theorem aJv (k:Int)(b:List Int)(h:b.length≤34359738368):La k b=some (S9 k b):=by
 unfold La
 rw[aWp (k:=k) h (fun rec i s hi hs=>by
  have e:=aZ0 k i b[i]
  simp only[bD hi,cond_true,aG hi,bd_s,aH (show([(i:Int)]:List Int).length≤34359738368 by simp),e,fM hs]) (fun rec s=>by simp only[bE,cond_false])]
 rfl
theorem aJw (p:Int)(b:D.Box):Km p b=some (fF p b):=by
 unfold Km fF
 by_cases hl:b.Data.length≤200
 ·simp only[aH (show b.Data.length≤34359738200 by omega),aH (show b.Data.length≤34359738368 by omega),bd_s,show decide ((b.Data.length:Int)>200)=false from decide_eq_false (by omega)]
  cases eG p<;>cases(b.To !=fZ p)<;>cases eG b.Ephemeral<;>cases(b.MAC !=aDx (jU p b.Ephemeral) b)<;>rfl
 ·rw[show decide ((b.Data.length:Int)>200)=true from decide_eq_true (by omega)]
  cases eG p<;>cases(b.To !=fZ p)<;>cases eG b.Ephemeral<;>rfl
theorem D5 {bs:List D.Box}{p:Int}(hl:bs.length≤34359738368){F:(Nat→Option ((List Int×Bool)⊕PUnit))→Nat→Option ((List Int×Bool)⊕PUnit)}
  (hF:∀rec i (hi:i<bs.length),F rec i=bif (fF p bs[i]).2 then some (.inl ((fF p bs[i]).1,true)) else rec (i+1)) (hE:∀rec,F rec bs.length=some (.inr ())):nx (bW FUEL F 0) (fun _=>some (([]:List Int),false))=some (gB bs p):=by
 have go:∀(k i n:Nat),i+k=bs.length→k<n→nx (bW n F i) (fun _=>some (([]:List Int),false))=some (gB (bs.drop i) p):=by
  intro k
  induction k with
  |zero=>
   intro i n hk hn
   obtain⟨n,rfl⟩:∃m,n=m+1:=⟨n-1,by omega⟩
   have:i=bs.length:=by omega
   subst this
   rw[kJ,hE,List.drop_length];rfl
  |succ k ih=>
   intro i n hk hn
   obtain⟨n,rfl⟩:∃m,n=m+1:=⟨n-1,by omega⟩
   have hi:i<bs.length:=by omega
   rw[kJ,hF _ i hi,List.drop_eq_getElem_cons hi,gB]
   cases(fF p bs[i]).2 with
   |true=>rfl
   |false=>exact ih (i+1) n (by omega) (by omega)
 exact go bs.length 0 FUEL (by omega) (by have:=gT;omega)
theorem aJx (bs:List D.Box)(p:Int)(h:bs.length≤34359738368):Kn bs p=some (gB bs p):=by
 unfold Kn
 exact D5 h (fun rec i hi=>by simp only[bD hi,cond_true,aG hi,bd_s]) (fun rec=>by simp only[bE,cond_false])
theorem aJy (p:Int)(b:D.Box):Lb p b=some (fF p b):=by
 unfold Lb fF
 by_cases hl:b.Data.length≤200
 ·simp only[aH (show b.Data.length≤34359738200 by omega),aH (show b.Data.length≤34359738368 by omega),bd_s,show decide ((b.Data.length:Int)>200)=false from decide_eq_false (by omega)]
  cases eG p<;>cases(b.To !=fZ p)<;>cases eG b.Ephemeral<;>cases(b.MAC !=aDx (jU p b.Ephemeral) b)<;>rfl
 ·rw[show decide ((b.Data.length:Int)>200)=true from decide_eq_true (by omega)]
  cases eG p<;>cases(b.To !=fZ p)<;>cases eG b.Ephemeral<;>rfl
theorem aJz (bs:List D.Box)(p:Int)(h:bs.length≤34359738368):Lc bs p=some (gB bs p):=by
 unfold Lc
 exact D5 h (fun rec i hi=>by simp only[bD hi,cond_true,aG hi,bd_s]) (fun rec=>by simp only[bE,cond_false])
theorem aJ0 {c:D.Cloud}{b:Int}(hz:c.sz≤34359738368)(h0:0≤b∧b<(c.History.length:Int)):aT c.History (IntKind.i64.wrap (IntKind.i64.wrap ((c.History.length:Int)-1)-b))=some (c.History.getD (c.History.length-1-b.toNat) default)∧(c.History.getD (c.History.length-1-b.toNat) default).sz≤34359738368:=by
 simp only[D.Cloud.sz] at hz
 have h1:=aQ5 (f:=D.SealedBundle.sz) (l:=c.History) (i:=c.History.length-1-b.toNat) (by omega)
 refine⟨?_,by omega⟩
 rw[aS (n:=(c.History.length:Int)-1) (by omega) (by omega),aS (by omega) (by omega),aTf (by omega) (by omega)]
 congr 2;omega
theorem Vp (c:D.Cloud)(b:Int)(hz:c.sz≤34359738368):sU c b=some (gW c b):=by
 unfold sU gW
 rw[bBf (by simp only[D.Cloud.sz] at hz;omega)]
 cases e:(decide (b<0)||decide (b≥(c.History.length:Int))) with
 |true=>rfl
 |false=>
  obtain⟨h1,h2⟩:=aJ0 hz (aQ4 e)
  rw[cond_false,cond_false,h1,bd_s,aH h2,bd_s]
theorem Vq (c:D.Cloud)(b:Int)(hz:c.sz≤34359738368):tO c b=some (gW c b):=by
 unfold tO gW
 rw[Dx,bd_s]
 cases e:(decide (b<0)||decide (b≥(c.History.length:Int))) with
 |true=>rfl
 |false=>
  obtain⟨h1,h2⟩:=aJ0 hz (aQ4 e)
  rw[cond_false,cond_false,h1,bd_s,aH h2,bd_s]
end
end Go.VK
