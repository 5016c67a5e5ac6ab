import Derived.Test.YtlnjelnfjgjanaaGreatXpPzc
import Derived.Test.YtlnjelnfjgjanaaGreatXpM
import Derived.Test.YtlnjelnfjgjanaaGreatLKatoq
/- Printed by wip/tools: models, walks, proofs. -/
set_option linter.unusedVariables false
set_option linter.unusedSimpArgs false
set_option maxRecDepth 100000
set_option maxHeartbeats 4000000
namespace Go.VK
open Go.RowKit Go.Proofs
noncomputable section
open EV (bT)
theorem bHa (n k t pin seed:Int):(dH n k t pin seed).Hosts.length≤7:=by
 unfold dH
 cases Yi n k t pin seed with
 |false=>exact Nat.zero_le _
 |true=>exact(Yk pin 7 (aU seed [283]) (IntKind.i64.wrap (1+(aU seed [293]).tmod 1018)) (O3 seed t) k 5).1
theorem aQ9 {w:D.World}{l:List D.Event}(h:WIn w.Devices.length w)(hh:w.Hosts.length≤400):∀k,WIn (runN w l k).Devices.length (runN w l k)∧(runN w l k).Hosts.length≤400∧(runN w l k).sz≤w.sz+3000*k∧(runN w l k).Seed=w.Seed
 |0=>⟨h,hh,Nat.le_refl _,rfl⟩
 |k+1=>by
  obtain⟨h1,h2,h3,h4⟩:=aQ9 (l:=l) h hh k
  have:=aS5 h1 h2 (l.getD k default).Kind (l.getD k default).Device (l.getD k default).Other (l.getD k default).Value (l.getD k default).Flag
  exact⟨this.kept.wi,Nat.le_trans this.hosts h2,by have:=this.kept.sz;show(aF7 _ _ _ _ _ _).1.sz≤_;omega,this.kept.seed.trans h4⟩
theorem aVf {m:Nat}{w:D.World}(h:WIn m w){j:Int}(hj:j=0∨j=1):∃l,jK w j=l.map D.aAJ.Public∧Tz w.Seed j l∧l.length=m:=by
 have h2:=h.two
 rcases hj with rfl|rfl
 ·obtain⟨l,e,h3,h4⟩:=(h.site 0 (by omega)).acc
  refine⟨l,?_,h3,h4⟩
  unfold jK gI
  rw[decide_eq_true (show(0:Int)≤0 by decide),decide_eq_true (show(0:Int)<(w.Sites.length:Int) by omega),show w.Sites.getD (0:Int).toNat default=w.Sites[0] from by rw[List.getD,show(0:Int).toNat=0 from rfl,List.getElem?_eq_getElem (by omega)];rfl]
  simp[Nu,jD,e]
 ·obtain⟨l,e,h3,h4⟩:=(h.site 1 (by omega)).acc
  refine⟨l,?_,h3,h4⟩
  unfold jK gI
  rw[decide_eq_true (show(0:Int)≤1 by decide),decide_eq_true (show(1:Int)<(w.Sites.length:Int) by omega),show w.Sites.getD (1:Int).toNat default=w.Sites[1] from by rw[List.getD,show(1:Int).toNat=1 from rfl,List.getElem?_eq_getElem (by omega)];rfl]
  simp[Nu,jD,e]
theorem bHb {w:D.World}{r:Int}(h:r∈Dz w):∃k:Nat,r=(k:Int)∧gF w (k:Int)=true∧∃hk:k<w.Stolen.length,w.Stolen[k]=false:=by
 unfold Dz at h
 obtain⟨k,hk,rfl⟩:=List.mem_map.1 h
 have:=(List.mem_filter.1 hk).2
 unfold aFa at this
 simp only[Bool.and_eq_true,decide_eq_true_eq,Bool.not_eq_true'] at this
 refine⟨k,rfl,this.1,this.2.1,?_⟩
 have h2:=this.2.2
 rw[List.getD,List.getElem?_eq_getElem this.2.1] at h2
 exact h2
theorem Pt (l:List Int)(h:aN2 l):uJ l=some true:=by
 unfold uJ
 cases hb:bAx l with
 |true=>rfl
 |false=>
  have hlen:l.length≤1048576:=by
   unfold bAx at hb
   rw[decide_eq_false_iff_not] at hb;omega
  obtain⟨⟨n,k,t,p,s,e,ok,s1,s2⟩,el,_⟩:=bEn hlen
  rw[cond_false,aB hlen,bd_s]
  have hi:=aBt ok
  have hz:(dH n k t p s).sz≤100000:=aBo ..
  have hh:=bHa n k t p s
  rw[←e] at hi hz hh
  generalize(aBq l).1=w at*
  generalize(aBq l).2=v at*
  obtain⟨i1,i2,i3⟩:=hi
  have hw:WIn w.Devices.length w:=by rw[i2];exact i1
  have R:=aQ9 (l:=v) hw (by omega)
  have hR:aQl w v:=⟨by omega,fun q hq=>by have:=(R q).2.2.1;omega⟩
  rw[aB hR,bd_s]
  obtain⟨x1,_,x3,_⟩:=R (min v.length 60)
  change WIn (aSt w v).Devices.length (aSt w v) at x1
  change (aSt w v).sz≤_ at x3
  generalize aSt w v=x at*
  have xz:x.sz≤34359738368:=by omega
  have wz:w.sz≤34359738368:=by omega
  have hd:=hw.dlen
  have hn:bF n 1 3=true:=by
   unfold Yi at ok
   simp only[Bool.and_eq_true] at ok
   exact ok.1
  have hn:=kJ hn
  have hs:IntKind.i64.wrap (w.Seed.tmod 5000+7)=s+7:=by
   rw[i3,Int.tmod_eq_emod_of_nonneg (by omega),Int.emod_eq_of_lt (by omega) (by omega),aG (by omega) (by omega)]
  have oo:Yi (w.Devices.length:Int) 2 1 3 (s+7)=true:=by
   unfold Yi
   rw[show bM (s+7)=true from kG (by omega) (by omega),kG (show(1:Int)≤(w.Devices.length:Int) by omega) (by omega)];decide
  obtain⟨o1,o2,_⟩:=aBt oo
  have oz:(dH (w.Devices.length:Int) 2 1 3 (s+7)).sz≤100000:=aBo ..
  obtain⟨a,ea,ha,la⟩:=aVf x1 (.inl rfl)
  obtain⟨b,eb,hb',lb⟩:=aVf x1 (.inr rfl)
  obtain⟨c,ec,_,lc⟩:=aVf hw (.inl rfl)
  obtain⟨d,ed,_,ld⟩:=aVf o1 (.inr rfl)
  have hx:=x1.dlen
  have no:∀y∈jK x 0,iZ (jK x 1) y=false:=fun y hy=>by
   rw[Bool.eq_false_iff]
   intro hq
   have hq:=Yp.1 hq
   rw[ea] at hy
   rw[eb] at hq
   obtain⟨c1,m1,rfl⟩:=List.mem_map.1 hy
   obtain⟨c2,m2,e2⟩:=List.mem_map.1 hq
   obtain⟨q1,g1,rfl⟩:=List.mem_iff_getElem.1 m1
   obtain⟨q2,g2,rfl⟩:=List.mem_iff_getElem.1 m2
   rw[(ha q1 g1).2.1,(hb' q2 g2).2.1] at e2
   exact aU2 (by omega) (by omega) (.inr rfl) (.inl rfl) (.inr (by decide)) e2
  have v0:(jK x 0).length=x.Devices.length:=by rw[ea,List.length_map,la]
  have v1:(jK x 1).length=x.Devices.length:=by rw[eb,List.length_map,lb]
  have v2:(jK w 0).length=w.Devices.length:=by rw[ec,List.length_map,lc]
  have v3:(jK (dH (w.Devices.length:Int) 2 1 3 (s+7)) 1).length=w.Devices.length:=by rw[ed,List.length_map,ld];omega
  have hr:(Dz x).length≤6:=by
   unfold Dz
   rw[List.length_map]
   exact Nat.le_trans (List.length_filter_le _ _) (by rw[List.length_range];exact hx.2)
  rw[aB xz,bd_s]
  dsimp only
  refine aHh (b:=PUnit.unit) (Ur (jK x 0).length (by omega) (fun rec i hi=> ?_) (fun rec=>by simp only[dS,cond_false])) ?_
  ·simp only[dQ hi,cond_true,aM hi,bd_s,aB (show(jK x 1).length≤1099511627776 by omega),no _ (List.getElem_mem hi),cond_false]
  rw[aB (by decide),aB wz,bd_s,hs,aB (show(dH (w.Devices.length:Int) 2 1 3 (s+7)).sz≤34359738368 by omega),bd_s,aB (bBl xz),bd_s]
  refine aHh (b:=PUnit.unit) (Ur (Dz x).length (by omega) (fun rec i hi=> ?_) (fun rec=>by simp only[dS,cond_false])) ?_
  ·obtain⟨q,e1,e2,e3,e4⟩:=bHb (List.getElem_mem hi)
   simp only[dQ hi,cond_true,aM hi,bd_s,e1,aM e3,e4,cond_false,aB (bBl xz),e2,Bool.not_true]
  dsimp only
  rw[v0,v1,v2,v3]
  simp
end
end Go.VK
