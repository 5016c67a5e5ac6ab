import Derived.Test.YthecajfmhdediaaGreatDoorXhPd
import Derived.Test.YthecajfmhdediaaGreatDoorXhQ
/- Printed by wip/tools: models, walks, proofs. -/
set_option linter.unusedVariables false
set_option linter.unusedSimpArgs false
set_option maxRecDepth 100000
set_option maxHeartbeats 4000000
namespace Go.VK
open Go.RowKit Go.Proofs
noncomputable section
open EV (bX)
theorem aPw (l:List D.aAB)(h:l.length≤34359738368):Ov l=some l:=by
 unfold Ov;rw[kZ h];rfl
theorem aPx (l:List D.aAB)(h:l.length≤34359738368):Qb l=some l:=by
 unfold Qb;rw[kZ h];rfl
theorem aFp (l:List Int)(h:l.length≤34359738368):Cz l=some l:=by
 unfold Cz;rw[kZ h];rfl
theorem aPy (d:D.Device)(h:d.sz≤34359738368):Oy d=some d:=by
 simp only[D.Device.sz] at h
 unfold Oy
 simp only[aD (show d.Log.length≤34359738368 by omega),aD (show d.aAC.sz≤34359738368 by simp only[D.aAC.sz];omega),bd_s]
theorem aAw (d:D.Device)(h:d.sz≤34359738368):zN d=some d:=by
 simp only[D.Device.sz] at h
 unfold zN
 simp only[aD (show d.Log.length≤34359738368 by omega),aD (show d.aAC.sz≤34359738368 by simp only[D.aAC.sz];omega),bd_s]
theorem aPz (e:D.aAE)(h:e.sz≤34359738368):Oz e=some e:=by
 simp only[D.aAE.sz] at h
 unfold Oz
 rw[Z5 (l:=e.Boxes) (by omega) (fun rec i s hi hs=>by
  have hz:=dP (f:=D.Box.sz) hi
  simp only[D.Box.sz] at hz h
  simp only[bH hi,cond_true,aH hi,bd_s,kZ (show e.Boxes[i].Data.length≤34359738368 by omega),eT hs,List.nil_append]) (fun rec s=>by simp only[bJ,cond_false])]
 rfl
theorem aFq (l:List D.Box)(h:szL D.Box.sz l≤34359738368):Da l=some l:=by
 unfold Da
 unfold szL at h
 rw[bHc (l:=l) (by omega) (fun rec i s hi hs=>by
  have hz:=dP (f:=D.Box.sz) hi
  simp only[D.Box.sz] at hz h
  simp only[bH hi,cond_true,aH hi,bd_s,aD (show l[i].Data.length≤34359738368 by omega),eT hs]) (fun rec s=>by simp only[bJ,cond_false])]
 rfl
theorem La (e:D.aAE)(h:e.sz≤34359738368):pO e=some e:=by
 unfold pO
 simp only[aD (show szL D.Box.sz e.Boxes≤34359738368 from h),bd_s]
theorem aP0 (e:D.aAA)(h:e.sz≤34359738368):Pb e=some e:=by
 unfold Pb;rw[kZ h];rfl
theorem aAx (e:D.aAA)(h:e.sz≤34359738368):zL e=some e:=by
 unfold zL;simp only[aD (show e.Data.length≤34359738368 from h),bd_s]
theorem aP1 (c:D.aAH)(h:c.sz≤34359738368):Pd c=some c:=by
 simp only[D.aAH.sz] at h
 unfold Pd
 rw[Z5 (l:=c.History) (by omega) (fun rec i s hi hs=>by
  have hz:=dP (f:=D.aAA.sz) hi
  simp only[bH hi,cond_true,aH hi,bd_s,aD (show c.History[i].sz≤34359738368 by omega),eT hs]) (fun rec s=>by simp only[bJ,cond_false])]
 simp only[aD (show c.Log.length≤34359738368 by omega),aD (show c.Boxes.sz≤34359738368 by simp only[D.aAE.sz];omega),bd_s]
theorem aFr (c:D.aAH)(h:c.sz≤34359738368):Db c=some c:=by
 simp only[D.aAH.sz] at h
 unfold Db
 rw[Z5 (l:=c.History) (by omega) (fun rec i s hi hs=>by
  have hz:=dP (f:=D.aAA.sz) hi
  simp only[bH hi,cond_true,aH hi,bd_s,aD (show c.History[i].sz≤34359738368 by omega),eT hs]) (fun rec s=>by simp only[bJ,cond_false])]
 simp only[aD (show c.Log.length≤34359738368 by omega),aD (show c.Boxes.sz≤34359738368 by simp only[D.aAE.sz];omega),bd_s]
theorem aP2 (e:D.aAG)(h:e.sz≤34359738368):Pe e=some e:=by
 unfold Pe;rw[kZ h];rfl
theorem D8 (e:D.aAG)(h:e.sz≤34359738368):wO e=some e:=by
 unfold wO;rw[kZ h];rfl
theorem aP3 (e:D.aAF)(h:e.sz≤34359738368):Pf e=some e:=by
 unfold Pf;rw[kZ h];rfl
theorem aKs (e:D.aAF)(h:e.sz≤34359738368):Jl e=some e:=by
 unfold Jl;rw[kZ h];rfl
theorem aP4 (s:D.Site)(h:s.sz≤34359738368):Pg s=some s:=by
 simp only[D.Site.sz] at h
 unfold Pg
 rw[Z5 (l:=s.Accounts) (by omega) (fun rec i q hi hs=>by
  have hz:=dP (f:=D.aAG.sz) hi
  simp only[bH hi,cond_true,aH hi,bd_s,aD (show s.Accounts[i].sz≤34359738368 by omega),eT hs]) (fun rec q=>by simp only[bJ,cond_false])]
 simp only[aD (show s.Book.sz≤34359738368 by simp only[D.aAF.sz];omega),bd_s,kZ (show s.Logins.length≤34359738368 by omega),List.nil_append]
theorem aKt (s:D.Site)(h:s.sz≤34359738368):Jm s=some s:=by
 simp only[D.Site.sz] at h
 unfold Jm
 rw[Z5 (l:=s.Accounts) (by omega) (fun rec i q hi hs=>by
  have hz:=dP (f:=D.aAG.sz) hi
  simp only[bH hi,cond_true,aH hi,bd_s,aD (show s.Accounts[i].sz≤34359738368 by omega),eT hs]) (fun rec q=>by simp only[bJ,cond_false])]
 simp only[aD (show s.Book.sz≤34359738368 by simp only[D.aAF.sz];omega),bd_s,aD (show vP s.Logins [] by unfold vP;simp;omega)]
 simp[nO]
theorem aP5 (e:D.aAD)(h:e.sz≤34359738368):Ph e=some e:=by
 unfold Ph;rw[kZ h];rfl
theorem aKu (e:D.aAD)(h:e.sz≤34359738368):Jj e=some e:=by
 unfold Jj;rw[kZ h];rfl
theorem aKv (l:List D.aAD)(h:szL D.aAD.sz l≤34359738368):Ja l=some l:=by
 unfold Ja
 unfold szL at h
 rw[bHc (l:=l) (by omega) (fun rec i s hi hs=>by
  have hz:=dP (f:=D.aAD.sz) hi
  simp only[bH hi,cond_true,aH hi,bd_s,aD (show l[i].sz≤34359738368 by omega),eT hs]) (fun rec s=>by simp only[bJ,cond_false])]
 rfl
theorem aFs (l:List D.aAD)(h:szL D.aAD.sz l≤34359738368):Dc l=some l:=by
 unfold Dc
 unfold szL at h
 rw[bHc (l:=l) (by omega) (fun rec i s hi hs=>by
  have hz:=dP (f:=D.aAD.sz) hi
  simp only[bH hi,cond_true,aH hi,bd_s,aD (show l[i].sz≤34359738368 by omega),eT hs]) (fun rec s=>by simp only[bJ,cond_false])]
 rfl
theorem aP6 (e:D.aAK)(h:e.sz≤34359738368):Pi e=some e:=by
 unfold Pi;rw[kZ h];rfl
theorem aKw (e:D.aAK)(h:e.sz≤34359738368):Jk e=some e:=by
 unfold Jk;rw[kZ h];rfl
theorem aP7 (w:D.World)(h:w.sz≤34359738368):Pj w=some w:=by
 simp only[D.World.sz] at h
 unfold Pj
 rw[Z5 (l:=w.Devices) (by omega) (fun rec i q hi hs=>by
  have hz:=dP (f:=D.Device.sz) hi
  simp only[bH hi,cond_true,aH hi,bd_s,aD (show w.Devices[i].sz≤34359738368 by omega),eT hs]) (fun rec q=>by simp only[bJ,cond_false]),
  Z5 (l:=w.Sites) (by omega) (fun rec i q hi hs=>by
  have hz:=dP (f:=D.Site.sz) hi
  simp only[bH hi,cond_true,aH hi,bd_s,aD (show w.Sites[i].sz≤34359738368 by omega),eT hs]) (fun rec q=>by simp only[bJ,cond_false])]
 simp only[bd_s,kZ (show w.Stolen.length≤34359738368 by omega),aD (show w.aAH.sz≤34359738368 by simp only[D.aAH.sz];omega),aD (show szL D.aAD.sz w.Hosts≤34359738368 by unfold szL;omega),aD (show w.Mail.sz≤34359738368 by simp only[D.aAK.sz];omega),List.nil_append]
theorem aFt (w:D.World)(h:w.sz≤34359738368):De w=some w:=by
 simp only[D.World.sz] at h
 unfold De
 rw[Z5 (l:=w.Devices) (by omega) (fun rec i q hi hs=>by
  have hz:=dP (f:=D.Device.sz) hi
  simp only[bH hi,cond_true,aH hi,bd_s,aD (show w.Devices[i].sz≤34359738368 by omega),eT hs]) (fun rec q=>by simp only[bJ,cond_false]),
  Z5 (l:=w.Sites) (by omega) (fun rec i q hi hs=>by
  have hz:=dP (f:=D.Site.sz) hi
  simp only[bH hi,cond_true,aH hi,bd_s,aD (show w.Sites[i].sz≤34359738368 by omega),eT hs]) (fun rec q=>by simp only[bJ,cond_false])]
 simp only[bd_s,kZ (show w.Stolen.length≤34359738368 by omega),aD (show w.aAH.sz≤34359738368 by simp only[D.aAH.sz];omega),aD (show szL D.aAD.sz w.Hosts≤34359738368 by unfold szL;omega),aD (show w.Mail.sz≤34359738368 by simp only[D.aAK.sz];omega),List.nil_append]
end
end Go.VK
