import Derived.Test.YtaaefkcjgkpckaaGreatDoorXoPd
import Derived.Test.YtaaefkcjgkpckaaGreatDoorXoM
/- Printed by wip/tools: models, walks, proofs. -/
set_option linter.unusedVariables false
set_option linter.unusedSimpArgs false
set_option maxRecDepth 100000
set_option maxHeartbeats 4000000
namespace Go.VK
open Go.RowKit Go.Proofs
noncomputable section
open EV (dL)
theorem aGx (l:List D.aAA)(h:l.length≤34359738368):Ka l=some l:=by
 unfold Ka;rw[lM h];rfl
theorem aGy (l:List D.aAA)(h:l.length≤34359738368):Lc l=some l:=by
 unfold Lc;rw[lM h];rfl
theorem R7 (l:List Int)(h:l.length≤34359738368):Bc l=some l:=by
 unfold Bc;rw[lM h];rfl
theorem aGz (d:D.Device)(h:d.sz≤34359738368):Kn d=some d:=by
 simp only[D.Device.sz] at h
 unfold Kn
 simp only[aG (show d.Log.length≤34359738368 by omega),aG (show d.aAE.sz≤34359738368 by simp only[D.aAE.sz];omega),bd_s]
theorem Zc (d:D.Device)(h:d.sz≤34359738368):yQ d=some d:=by
 simp only[D.Device.sz] at h
 unfold yQ
 simp only[aG (show d.Log.length≤34359738368 by omega),aG (show d.aAE.sz≤34359738368 by simp only[D.aAE.sz];omega),bd_s]
theorem aG0 (e:D.aAG)(h:e.sz≤34359738368):Kg e=some e:=by
 simp only[D.aAG.sz] at h
 unfold Kg
 rw[Ye (l:=e.Boxes) (by omega) (fun rec i s hi hs=>by
  have hz:=jJ (f:=D.Box.sz) hi
  simp only[D.Box.sz] at hz h
  simp only[dZ hi,cond_true,aR hi,bd_s,lM (show e.Boxes[i].Data.length≤34359738368 by omega),iC hs,List.nil_append]) (fun rec s=>by simp only[eD,cond_false])]
 rfl
theorem R8 (l:List D.Box)(h:szL D.Box.sz l≤34359738368):Bd l=some l:=by
 unfold Bd
 unfold szL at h
 rw[bAp (l:=l) (by omega) (fun rec i s hi hs=>by
  have hz:=jJ (f:=D.Box.sz) hi
  simp only[D.Box.sz] at hz h
  simp only[dZ hi,cond_true,aR hi,bd_s,aG (show l[i].Data.length≤34359738368 by omega),iC hs]) (fun rec s=>by simp only[eD,cond_false])]
 rfl
theorem Gp (e:D.aAG)(h:e.sz≤34359738368):qE e=some e:=by
 unfold qE
 simp only[aG (show szL D.Box.sz e.Boxes≤34359738368 from h),bd_s]
theorem aG1 (e:D.aAC)(h:e.sz≤34359738368):Kq e=some e:=by
 unfold Kq;rw[lM h];rfl
theorem Zd (e:D.aAC)(h:e.sz≤34359738368):yO e=some e:=by
 unfold yO;simp only[aG (show e.Data.length≤34359738368 from h),bd_s]
theorem aG2 (c:D.aAB)(h:c.sz≤34359738368):Kr c=some c:=by
 simp only[D.aAB.sz] at h
 unfold Kr
 rw[Ye (l:=c.History) (by omega) (fun rec i s hi hs=>by
  have hz:=jJ (f:=D.aAC.sz) hi
  simp only[dZ hi,cond_true,aR hi,bd_s,aG (show c.History[i].sz≤34359738368 by omega),iC hs]) (fun rec s=>by simp only[eD,cond_false])]
 simp only[aG (show c.Log.length≤34359738368 by omega),aG (show c.Boxes.sz≤34359738368 by simp only[D.aAG.sz];omega),bd_s]
theorem R9 (c:D.aAB)(h:c.sz≤34359738368):Be c=some c:=by
 simp only[D.aAB.sz] at h
 unfold Be
 rw[Ye (l:=c.History) (by omega) (fun rec i s hi hs=>by
  have hz:=jJ (f:=D.aAC.sz) hi
  simp only[dZ hi,cond_true,aR hi,bd_s,aG (show c.History[i].sz≤34359738368 by omega),iC hs]) (fun rec s=>by simp only[eD,cond_false])]
 simp only[aG (show c.Log.length≤34359738368 by omega),aG (show c.Boxes.sz≤34359738368 by simp only[D.aAG.sz];omega),bd_s]
theorem aG3 (e:D.aAF)(h:e.sz≤34359738368):Kj e=some e:=by
 unfold Kj;rw[lM h];rfl
theorem Td (e:D.aAF)(h:e.sz≤34359738368):wM e=some e:=by
 unfold wM;rw[lM h];rfl
theorem aG4 (e:D.aAD)(h:e.sz≤34359738368):Kk e=some e:=by
 unfold Kk;rw[lM h];rfl
theorem aCc (e:D.aAD)(h:e.sz≤34359738368):Fq e=some e:=by
 unfold Fq;rw[lM h];rfl
theorem aG5 (s:D.Site)(h:s.sz≤34359738368):Kl s=some s:=by
 simp only[D.Site.sz] at h
 unfold Kl
 rw[Ye (l:=s.Accounts) (by omega) (fun rec i q hi hs=>by
  have hz:=jJ (f:=D.aAF.sz) hi
  simp only[dZ hi,cond_true,aR hi,bd_s,aG (show s.Accounts[i].sz≤34359738368 by omega),iC hs]) (fun rec q=>by simp only[eD,cond_false])]
 simp only[aG (show s.Book.sz≤34359738368 by simp only[D.aAD.sz];omega),bd_s,lM (show s.Logins.length≤34359738368 by omega),List.nil_append]
theorem aCd (s:D.Site)(h:s.sz≤34359738368):Fs s=some s:=by
 simp only[D.Site.sz] at h
 unfold Fs
 rw[Ye (l:=s.Accounts) (by omega) (fun rec i q hi hs=>by
  have hz:=jJ (f:=D.aAF.sz) hi
  simp only[dZ hi,cond_true,aR hi,bd_s,aG (show s.Accounts[i].sz≤34359738368 by omega),iC hs]) (fun rec q=>by simp only[eD,cond_false])]
 simp only[aG (show s.Book.sz≤34359738368 by simp only[D.aAD.sz];omega),bd_s,aG (show tH s.Logins [] by unfold tH;simp;omega)]
 simp[oL]
theorem aG6 (e:D.aAI)(h:e.sz≤34359738368):Ld e=some e:=by
 unfold Ld;rw[lM h];rfl
theorem aCe (e:D.aAI)(h:e.sz≤34359738368):Fj e=some e:=by
 unfold Fj;rw[lM h];rfl
theorem aCf (l:List D.aAI)(h:szL D.aAI.sz l≤34359738368):Fu l=some l:=by
 unfold Fu
 unfold szL at h
 rw[bAp (l:=l) (by omega) (fun rec i s hi hs=>by
  have hz:=jJ (f:=D.aAI.sz) hi
  simp only[dZ hi,cond_true,aR hi,bd_s,aG (show l[i].sz≤34359738368 by omega),iC hs]) (fun rec s=>by simp only[eD,cond_false])]
 rfl
theorem S9 (l:List D.aAI)(h:szL D.aAI.sz l≤34359738368):Bf l=some l:=by
 unfold Bf
 unfold szL at h
 rw[bAp (l:=l) (by omega) (fun rec i s hi hs=>by
  have hz:=jJ (f:=D.aAI.sz) hi
  simp only[dZ hi,cond_true,aR hi,bd_s,aG (show l[i].sz≤34359738368 by omega),iC hs]) (fun rec s=>by simp only[eD,cond_false])]
 rfl
theorem aG7 (e:D.aAN)(h:e.sz≤34359738368):Lg e=some e:=by
 unfold Lg;rw[lM h];rfl
theorem aCg (e:D.aAN)(h:e.sz≤34359738368):Fp e=some e:=by
 unfold Fp;rw[lM h];rfl
theorem aG8 (w:D.World)(h:w.sz≤34359738368):Lh w=some w:=by
 simp only[D.World.sz] at h
 unfold Lh
 rw[Ye (l:=w.Devices) (by omega) (fun rec i q hi hs=>by
  have hz:=jJ (f:=D.Device.sz) hi
  simp only[dZ hi,cond_true,aR hi,bd_s,aG (show w.Devices[i].sz≤34359738368 by omega),iC hs]) (fun rec q=>by simp only[eD,cond_false]),
  Ye (l:=w.Sites) (by omega) (fun rec i q hi hs=>by
  have hz:=jJ (f:=D.Site.sz) hi
  simp only[dZ hi,cond_true,aR hi,bd_s,aG (show w.Sites[i].sz≤34359738368 by omega),iC hs]) (fun rec q=>by simp only[eD,cond_false])]
 simp only[bd_s,lM (show w.Stolen.length≤34359738368 by omega),aG (show w.aAB.sz≤34359738368 by simp only[D.aAB.sz];omega),aG (show szL D.aAI.sz w.Hosts≤34359738368 by unfold szL;omega),aG (show w.Mail.sz≤34359738368 by simp only[D.aAN.sz];omega),List.nil_append]
theorem T9 (w:D.World)(h:w.sz≤34359738368):Bg w=some w:=by
 simp only[D.World.sz] at h
 unfold Bg
 rw[Ye (l:=w.Devices) (by omega) (fun rec i q hi hs=>by
  have hz:=jJ (f:=D.Device.sz) hi
  simp only[dZ hi,cond_true,aR hi,bd_s,aG (show w.Devices[i].sz≤34359738368 by omega),iC hs]) (fun rec q=>by simp only[eD,cond_false]),
  Ye (l:=w.Sites) (by omega) (fun rec i q hi hs=>by
  have hz:=jJ (f:=D.Site.sz) hi
  simp only[dZ hi,cond_true,aR hi,bd_s,aG (show w.Sites[i].sz≤34359738368 by omega),iC hs]) (fun rec q=>by simp only[eD,cond_false])]
 simp only[bd_s,lM (show w.Stolen.length≤34359738368 by omega),aG (show w.aAB.sz≤34359738368 by simp only[D.aAB.sz];omega),aG (show szL D.aAI.sz w.Hosts≤34359738368 by unfold szL;omega),aG (show w.Mail.sz≤34359738368 by simp only[D.aAN.sz];omega),List.nil_append]
end
end Go.VK
