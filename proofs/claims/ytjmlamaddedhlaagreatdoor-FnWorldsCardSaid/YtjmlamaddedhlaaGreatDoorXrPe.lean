import Derived.Test.YtjmlamaddedhlaaGreatDoorXrPd
import Derived.Test.YtjmlamaddedhlaaGreatDoorXrM
/- Printed by wip/tools: models, walks, proofs. -/
set_option linter.all false
set_option maxRecDepth 100000
set_option maxHeartbeats 4000000
namespace Go.VK
open Go.RowKit Go.Proofs
noncomputable section
open EV (bO)
def aHs (l:List D.aAB)(h:l.length<=34359738368):Jb l=some l:=by
 unfold Jb;rw[mP h];rfl
def aHt (l:List D.aAB)(h:l.length<=34359738368):Io l=some l:=by
 unfold Io;rw[mP h];rfl
def W9 (l:List Int)(h:l.length<=34359738368):zI l=some l:=by
 unfold zI;rw[mP h];rfl
def aHu (d:D.Device)(h:d.sz<=34359738368):Jm d=some d:=by
 simp only[D.Device.sz] at h
 unfold Jm
 simp only[aA (show d.Log.length<=34359738368 by omega),aA (show d.aAC.sz<=34359738368 by simp only[D.aAC.sz];omega),bd_s]
def Za (d:D.Device)(h:d.sz<=34359738368):wN d=some d:=by
 simp only[D.Device.sz] at h
 unfold wN
 simp only[aA (show d.Log.length<=34359738368 by omega),aA (show d.aAC.sz<=34359738368 by simp only[D.aAC.sz];omega),bd_s]
def aHv (e:D.aAD)(h:e.sz<=34359738368):Jf e=some e:=by
 simp only[D.aAD.sz] at h
 unfold Jf
 rw[aGw (l:=e.Boxes) (by omega) (λrec i s hi hs=>by
  have hz:=kV (f:=D.Box.sz) hi
  simp only[D.Box.sz] at hz h
  simp only[bY hi,ae,aK hi,bd_s,mP (show e.Boxes[i].Data.length<=34359738368 by omega),fB hs,bh]) (λrec s=>by simp only[cB,ac])]
 rfl
def X3 (l:List D.Box)(h:szL D.Box.sz l<=34359738368):zL l=some l:=by
 unfold zL
 unfold szL at h
 rw[bEv (l:=l) (by omega) (λrec i s hi hs=>by
  have hz:=kV (f:=D.Box.sz) hi
  simp only[D.Box.sz] at hz h
  simp only[bY hi,ae,aK hi,bd_s,aA (show l[i].Data.length<=34359738368 by omega),fB hs]) (λrec s=>by simp only[cB,ac])]
 rfl
def Ez (e:D.aAD)(h:e.sz<=34359738368):nO e=some e:=by
 unfold nO
 simp only[aA (show szL D.Box.sz e.Boxes<=34359738368 from h),bd_s]
def aHw (e:D.aAA)(h:e.sz<=34359738368):Jo e=some e:=by
 unfold Jo;rw[mP h];rfl
def Zb (e:D.aAA)(h:e.sz<=34359738368):wR e=some e:=by
 unfold wR;simp only[aA (show e.Data.length<=34359738368 from h),bd_s]
def aHx (c:D.aAI)(h:c.sz<=34359738368):Jp c=some c:=by
 simp only[D.aAI.sz] at h
 unfold Jp
 rw[aGw (l:=c.History) (by omega) (λrec i s hi hs=>by
  have hz:=kV (f:=D.aAA.sz) hi
  simp only[bY hi,ae,aK hi,bd_s,aA (show c.History[i].sz<=34359738368 by omega),fB hs]) (λrec s=>by simp only[cB,ac])]
 simp only[aA (show c.Log.length<=34359738368 by omega),aA (show c.Boxes.sz<=34359738368 by simp only[D.aAD.sz];omega),bd_s]
def X4 (c:D.aAI)(h:c.sz<=34359738368):zO c=some c:=by
 simp only[D.aAI.sz] at h
 unfold zO
 rw[aGw (l:=c.History) (by omega) (λrec i s hi hs=>by
  have hz:=kV (f:=D.aAA.sz) hi
  simp only[bY hi,ae,aK hi,bd_s,aA (show c.History[i].sz<=34359738368 by omega),fB hs]) (λrec s=>by simp only[cB,ac])]
 simp only[aA (show c.Log.length<=34359738368 by omega),aA (show c.Boxes.sz<=34359738368 by simp only[D.aAD.sz];omega),bd_s]
def aHy (e:D.aAG)(h:e.sz<=34359738368):Ji e=some e:=by
 unfold Ji;rw[mP h];rfl
def Ry (e:D.aAG)(h:e.sz<=34359738368):tT e=some e:=by
 unfold tT;rw[mP h];rfl
def aHz (e:D.aAE)(h:e.sz<=34359738368):Jj e=some e:=by
 unfold Jj;rw[mP h];rfl
def aDg (e:D.aAE)(h:e.sz<=34359738368):Dm e=some e:=by
 unfold Dm;rw[mP h];rfl
def aH0 (s:D.Site)(h:s.sz<=34359738368):Jk s=some s:=by
 simp only[D.Site.sz] at h
 unfold Jk
 rw[aGw (l:=s.Accounts) (by omega) (λrec i q hi hs=>by
  have hz:=kV (f:=D.aAG.sz) hi
  simp only[bY hi,ae,aK hi,bd_s,aA (show s.Accounts[i].sz<=34359738368 by omega),fB hs]) (λrec q=>by simp only[cB,ac])]
 simp only[aA (show s.Book.sz<=34359738368 by simp only[D.aAE.sz];omega),bd_s,mP (show s.Logins.length<=34359738368 by omega),bh]
def aDh (s:D.Site)(h:s.sz<=34359738368):Dp s=some s:=by
 simp only[D.Site.sz] at h
 unfold Dp
 rw[aGw (l:=s.Accounts) (by omega) (λrec i q hi hs=>by
  have hz:=kV (f:=D.aAG.sz) hi
  simp only[bY hi,ae,aK hi,bd_s,aA (show s.Accounts[i].sz<=34359738368 by omega),fB hs]) (λrec q=>by simp only[cB,ac])]
 simp only[aA (show s.Book.sz<=34359738368 by simp only[D.aAE.sz];omega),bd_s,aA (show sU s.Logins [] by unfold sU;simp;omega)]
 simp[mK]
def aDi (e:D.aAF)(h:e.sz<=34359738368):Dx e=some e:=by
 unfold Dx;rw[mP h];rfl
def X5 (l:List D.aAF)(h:szL D.aAF.sz l<=34359738368):zS l=some l:=by
 unfold zS
 unfold szL at h
 rw[bEv (l:=l) (by omega) (λrec i s hi hs=>by
  have hz:=kV (f:=D.aAF.sz) hi
  simp only[bY hi,ae,aK hi,bd_s,aA (show l[i].sz<=34359738368 by omega),fB hs]) (λrec s=>by simp only[cB,ac])]
 rfl
def aDj (e:D.aAM)(h:e.sz<=34359738368):Dy e=some e:=by
 unfold Dy;rw[mP h];rfl
def X6 (w:D.World)(h:w.sz<=34359738368):zT w=some w:=by
 simp only[D.World.sz] at h
 unfold zT
 rw[aGw (l:=w.Devices) (by omega) (λrec i q hi hs=>by
  have hz:=kV (f:=D.Device.sz) hi
  simp only[bY hi,ae,aK hi,bd_s,aA (show w.Devices[i].sz<=34359738368 by omega),fB hs]) (λrec q=>by simp only[cB,ac]),
  aGw (l:=w.Sites) (by omega) (λrec i q hi hs=>by
  have hz:=kV (f:=D.Site.sz) hi
  simp only[bY hi,ae,aK hi,bd_s,aA (show w.Sites[i].sz<=34359738368 by omega),fB hs]) (λrec q=>by simp only[cB,ac])]
 simp only[bd_s,mP (show w.Stolen.length<=34359738368 by omega),aA (show w.aAI.sz<=34359738368 by simp only[D.aAI.sz];omega),aA (show szL D.aAF.sz w.Hosts<=34359738368 by unfold szL;omega),aA (show w.Mail.sz<=34359738368 by simp only[D.aAM.sz];omega),bh]
end
end Go.VK
