import Derived.Test.YtlnjelnfjgjanaaGreatXpPzb
import Derived.Test.YtlnjelnfjgjanaaGreatXpM
/- Printed by wip/tools: models, walks, proofs. -/
set_option linter.unusedVariables false
set_option linter.unusedSimpArgs false
set_option maxRecDepth 100000
set_option maxHeartbeats 4000000
namespace Go.VK
open Go.RowKit Go.Proofs
noncomputable section
open EV (bT)
theorem Co (b:D.aAB)(now:Int)(h:b.sz≤34359738368):nO b now=some (kM b now):=by
 unfold nO kM
 rw[aB h,bd_s]
 cases hb:eG b with
 |false=>rw[Bool.not_false,cond_true,aB h];rfl
 |true=>
  have hl:b.Open.length≤16:=by
   unfold eG at hb
   simp only[Bool.and_eq_true,decide_eq_true_eq] at hb
   exact hb.1.2
  simp only[Bool.not_true,cond_false,cond_true]
  refine eT (a:=b.Open.filter fun c=>decide (c.Until≥now)) (qX (fun i=>(i,(b.Open.take i).filter fun c=>decide (c.Until≥now))) b.Open.length (by omega) (fun rec i hi=> ?_) (fun rec=> ?_) rfl) rfl
  ·simp only[dQ hi,cond_true,aM hi,bd_s]
   have hk:((b.Open.take i).filter fun c=>decide (c.Until≥now)).length≤16:=Nat.le_trans (List.length_filter_le _ _) (by rw[List.length_take];omega)
   rw[List.take_succ_eq_append_getElem hi,List.filter_append]
   cases hc:decide (b.Open[i].Until≥now) with
   |true=>
    rw[cond_true,aB (by unfold aS;rw[List.length_singleton];omega),bd_s,List.filter_cons,hc];rfl
   |false=>rw[cond_false,bd_s,List.filter_cons,hc];simp
  ·simp only[dS,cond_false,List.take_length]
theorem aHn (w:D.World)(h:w.sz≤34359738368):Km w=some (Av w):=by
 unfold Km Av
 rw[aB h,bd_s]
 refine eT (a:=aN (rZ w)) (aB (show(rZ w).sz≤34359738368 from h)) ?_
 cases hw:aN (rZ w) with
 |false=>rfl
 |true=>
  obtain⟨h2,_⟩:=zC hw
  change w.Sites.length=2 at h2
  have hz:∀s∈w.Sites,s.Book.sz≤34359738368:=fun s hs=>by
   have h1:s.sz≤w.sz:=by
    obtain⟨i,hi,rfl⟩:=List.mem_iff_getElem.1 hs
    have:=xO (f:=D.Site.sz) hi
    rw[List.getD,List.getElem?_eq_getElem hi,Option.getD_some] at this
    simp only[D.World.sz];omega
   have:s.Book.sz≤s.sz:=by simp only[D.Site.sz,D.aAB.sz];omega
   omega
  obtain⟨s0,s1,e⟩:∃s0 s1,w.Sites=[s0,s1]:=by
   match hq:w.Sites,h2 with
   |[s0,s1],_=>exact⟨s0,s1,rfl⟩
  rw[e] at hz
  have z0:=hz s0 (by simp)
  have z1:=hz s1 (by simp)
  rw[Bool.not_true,cond_false,cond_true]
  change bd (bT FUEL _ (0,w.Sites)) _=_
  rw[e]
  refine eT (qX (fun i=>(i,match i with|0=>[s0,s1]|1=>[{s0 with Book:=kM s0.Book (rZ w).Now},s1]|_=>[{s0 with Book:=kM s0.Book (rZ w).Now},{s1 with Book:=kM s1.Book (rZ w).Now}])) 2 (by omega) (fun rec i hi=> ?_) (fun rec=> ?_) rfl) rfl
  ·rcases(show i=0∨i=1 by omega) with rfl|rfl
   ·exact eT (aB z0) rfl
   ·exact eT (aB z1) rfl
  ·rfl
theorem o5 (w:D.World)(d j:Int)(o:ByteArray)(h:O8 w d j o∧w.sz≤34359738200):yO w d j o=some (aDz w d j o):=by
 have hz1:w.sz≤34359738368:=by omega
 unfold yO aDz
 simp only[aB hz1,bd_s]
 cases ht:dU w d j with
 |false=>rfl
 |true=>
  simp only[Bool.not_true,cond_false,Oh ht,bd_s,Bool.true_and]
  cases dV w d with
  |true=>rfl
  |false=>
   simp only[Bool.not_false,cond_false,cond_true]
   exact eT (aB (show jY (D.aAK.mk true o 443)∧w.sz≤34359738200 from⟨h.1 ht,h.2⟩)) rfl
theorem o6 (w:D.World)(d j:Int)(hz:w.sz≤34359738200):yP w d j=some (Je w d j):=by
 have hz1:w.sz≤34359738368:=by omega
 unfold yP Je
 simp only[aB hz1,bd_s,aB (aVc j)]
 cases ht:dU w d j with
 |false=>rfl
 |true=>
  simp only[Bool.not_true,cond_false,Oh ht,bd_s,Bool.true_and]
  cases dV w d with
  |false=>rfl
  |true=>
   simp only[Bool.not_true,cond_false,cond_true]
   exact eT (aB (show jY (aFu j)∧w.sz≤34359738200 from⟨bAp (Li ht).2.2.2.1,hz⟩)) rfl
theorem bEo (w:D.World)(d j:Int):O8 w d j (aFv j).Host:=fun ht=>by
 rcases(Li ht).2.2.2.1 with rfl|rfl
 ·exact⟨4,by decide,rfl⟩
 ·exact⟨5,by decide,rfl⟩
theorem aJx (w:D.World)(e:D.Event)(hz:w.sz≤34359738200):Sb w e=some (Ty w e):=by
 have hn:=Ll e.Other
 unfold Sb Ty
 cases e.Kind==2 with
 |true=>rw[cond_true,aB hz];rfl
 |false=>
  cases e.Kind==3 with
  |true=>
   rw[cond_false,cond_true,aB (by show 6+(aA e.Other).size≤_;omega),aB (by rw[ByteArray.size_append];show 6+(aA e.Other).size+9≤_;omega)]
   refine eT (a:=((iU w e.Device e.Other).2,(iU w e.Device e.Other).1.Now,(iU w e.Device e.Other).1.Seed,(iU w e.Device e.Other).1.Devices,(iU w e.Device e.Other).1.Stolen,(iU w e.Device e.Other).1.aAE.Log,(iU w e.Device e.Other).1.aAE.Boxes.Epoch,(iU w e.Device e.Other).1.aAE.Boxes.Boxes,(iU w e.Device e.Other).1.aAE.History,(iU w e.Device e.Other).1.Sites,(iU w e.Device e.Other).1.aAO.Salt,(iU w e.Device e.Other).1.aAO.Threshold,(iU w e.Device e.Other).1.aAO.Check,(iU w e.Device e.Other).1.aAO.Masked,(iU w e.Device e.Other).1.Hosts,(iU w e.Device e.Other).1.Pin,(iU w e.Device e.Other).1.Mail.Notices)) (eT (aB (show O8 w e.Device e.Other (aFv e.Other).Host∧w.sz≤34359738200 from⟨bEo _ _ _,hz⟩)) rfl) rfl
  |false=>rw[cond_false,cond_false,aB hz];rfl
theorem Vb (w:D.World)(e:D.Event)(h:w.sz≤33000000):wR w e=some (aF8 w e):=by
 have hz:w.sz≤34359738368:=by omega
 unfold wR aF8
 cases e.Kind==11 with
 |true=>rw[cond_true,aB h];rfl
 |false=>
 cases e.Kind==12 with
 |true=>rw[cond_false,cond_true,aB hz];rfl
 |false=>
 cases e.Kind==13 with
 |true=>rw[cond_false,cond_false,cond_true,aB hz];rfl
 |false=>rw[cond_false,cond_false,cond_false,aB hz];rfl
theorem o7 (w:D.World)(e:D.Event)(h:w.sz≤33000000):zA w e=some (evF w e):=by
 have hz:w.sz≤34359738368:=by omega
 have z1:w.sz≤34359738200:=by omega
 have z2:w.sz≤100000000:=by omega
 have z3:w.sz≤34359738300:=by omega
 have z4:w.sz≤10000000000:=by omega
 have z5:w.sz≤34359738100:=by omega
 unfold zA evF aF7
 rw[aB hz,bd_s]
 cases aN w with
 |false=>rw[Bool.not_false,cond_true,aB hz];rfl
 |true=>
 simp only[Bool.not_true,cond_false,aB hz,aB z1,aB z2,aB z4,aB z5,aB h,bd_s]
 cases h1:e.Kind==1 with
 |true=>rfl
 |false=>
 simp only[cond_false]
 cases h2:e.Kind==2 with
 |true=>simp only[cond_true,bd_s];unfold Ty;rw[h2];rfl
 |false=>
 cases h3:e.Kind==3 with
 |true=>simp only[cond_true,cond_false,bd_s];unfold Ty;rw[h2,h3];rfl
 |false=>
 simp only[cond_false,bd_s]
 cases h5:e.Kind==5 with
 |true=>
  rw[show(e.Kind==4)=false by rw[beq_iff_eq] at h5;rw[h5];rfl]
  simp only[cond_true,cond_false];unfold Ty;rw[h2,h3];rfl
 |false=>
 simp only[cond_false]
 cases h4:e.Kind==4 with
 |true=>rfl
 |false=>
 cases h6:e.Kind==6 with
 |true=>rfl
 |false=>
 cases h7:e.Kind==7 with
 |true=>rfl
 |false=>
 cases h8:e.Kind==8 with
 |true=>
  simp only[cond_false,cond_true]
  rw[aB (show w.sz≤34359738300∧_ from⟨z3,by decide⟩)];rfl
 |false=>
 cases h9:e.Kind==9 with
 |true=>rfl
 |false=>
 cases h10:e.Kind==10 with
 |true=>rfl
 |false=>
 simp only[cond_false]
 show bd (some (aF8 w e)) _=_
 rw[bd_s];rfl
theorem X4 (w:D.World)(l:List D.Event)(h:aQl w l):Cc w l=some (aSt w l):=by
 unfold Cc
 rw[aB h.1,bd_s]
 refine eT (a:=((runN w l (min l.length 60)).Now,(runN w l (min l.length 60)).Seed,(runN w l (min l.length 60)).Devices,(runN w l (min l.length 60)).Stolen,(runN w l (min l.length 60)).aAE.Log,(runN w l (min l.length 60)).aAE.Boxes.Epoch,(runN w l (min l.length 60)).aAE.Boxes.Boxes,(runN w l (min l.length 60)).aAE.History,(runN w l (min l.length 60)).Sites,(runN w l (min l.length 60)).aAO.Salt,(runN w l (min l.length 60)).aAO.Threshold,(runN w l (min l.length 60)).aAO.Check,(runN w l (min l.length 60)).aAO.Masked,(runN w l (min l.length 60)).Hosts,(runN w l (min l.length 60)).Pin,(runN w l (min l.length 60)).Mail.Notices)) (qX (fun i=>((i:Int),(runN w l i).Now,(runN w l i).Seed,(runN w l i).Devices,(runN w l i).Stolen,(runN w l i).aAE.Log,(runN w l i).aAE.Boxes.Epoch,(runN w l i).aAE.Boxes.Boxes,(runN w l i).aAE.History,(runN w l i).Sites,(runN w l i).aAO.Salt,(runN w l i).aAO.Threshold,(runN w l i).aAO.Check,(runN w l i).aAO.Masked,(runN w l i).Hosts,(runN w l i).Pin,(runN w l i).Mail.Notices)) (min l.length 60) (by omega) (fun rec i hi=> ?_) (fun rec=> ?_) rfl) rfl
 ·simp only[decide_eq_true (show(i:Int)<(l.length:Int) by omega),decide_eq_true (show(i:Int)<60 by omega),cond_true,bd_s,aM (show i<l.length by omega)]
  refine eT (aB (show(runN w l i).sz≤33000000 from h.2 i hi)) ?_
  rw[show IntKind.i64.wrap ((i:Int)+1)=((i+1:Nat):Int) by rw[aG (by omega) (by omega)];omega]
  have:l[i]'(by omega)=l.getD i default:=by rw[List.getD,List.getElem?_eq_getElem (show i<l.length by omega)];rfl
  rw[this];rfl
 ·by_cases hl:l.length<60
  ·simp only[decide_eq_false (show ¬((min l.length 60:Nat):Int)<(l.length:Int) by omega),cond_false,bd_s]
  ·simp only[decide_eq_false (show ¬((min l.length 60:Nat):Int)<60 by omega),aYl,bd_s,cond_false]
   cases decide (((min l.length 60:Nat):Int)<(l.length:Int))<;>rfl
theorem aCu (l:List Int)(x:Int)(h:l.length≤1099511627776):Ga l x=some (iZ l x):=by
 unfold Ga
 rw[mU (l:=l) (fun e=>e==x) (.inl true) (.inr ()) (by omega) (fun rec i hi=>by simp only[dQ hi,cond_true,aM hi,bd_s]) (fun rec=>by simp only[dS,cond_false])]
 unfold iZ;cases l.any _<;>rfl
end
end Go.VK
