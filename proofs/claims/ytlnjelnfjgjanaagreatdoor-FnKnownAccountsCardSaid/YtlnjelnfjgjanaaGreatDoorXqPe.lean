import Derived.Test.YtlnjelnfjgjanaaGreatDoorXqPd
import Derived.Test.YtlnjelnfjgjanaaGreatDoorXqM
/- Printed by wip/tools: models, walks, proofs. -/
set_option linter.all false
set_option maxRecDepth 100000
set_option maxHeartbeats 4000000
namespace Go.VK
open Go.RowKit Go.Proofs
noncomputable section
open EV (cB)
def aIw (l:List D.aAD)(h:l.length<=34359738368):Mg l=some l:=by
 unfold Mg;rw[lV h];rfl
def aIx (l:List D.aAD)(h:l.length<=34359738368):Nq l=some l:=by
 unfold Nq;rw[lV h];rfl
def aBe (l:List Int)(h:l.length<=34359738368):Ct l=some l:=by
 unfold Ct;rw[lV h];rfl
def aIy (d:D.Device)(h:d.sz<=34359738368):Mw d=some d:=by
 simp only[D.Device.sz] at h
 unfold Mw
 simp only[aB (show d.Log.length<=34359738368 by omega),aB (show d.aAC.sz<=34359738368 by simp only[D.aAC.sz];omega),bd_s]
def J8 (d:D.Device)(h:d.sz<=34359738368):zT d=some d:=by
 simp only[D.Device.sz] at h
 unfold zT
 simp only[aB (show d.Log.length<=34359738368 by omega),aB (show d.aAC.sz<=34359738368 by simp only[D.aAC.sz];omega),bd_s]
def aIz (e:D.aAG)(h:e.sz<=34359738368):Mk e=some e:=by
 simp only[D.aAG.sz] at h
 unfold Mk
 rw[G7 (l:=e.Boxes) (by omega) (λrec i s hi hs=>by
  have hz:=iY (f:=D.Box.sz) hi
  simp only[D.Box.sz] at hz h
  simp only[dB hi,ac,aN hi,bd_s,lV (show e.Boxes[i].Data.length<=34359738368 by omega),fK hs,bm]) (λrec s=>by simp only[dF,ab])]
 rfl
def aBf (l:List D.Box)(h:szL D.Box.sz l<=34359738368):Cu l=some l:=by
 unfold Cu
 unfold szL at h
 rw[bDp (l:=l) (by omega) (λrec i s hi hs=>by
  have hz:=iY (f:=D.Box.sz) hi
  simp only[D.Box.sz] at hz h
  simp only[dB hi,ac,aN hi,bd_s,aB (show l[i].Data.length<=34359738368 by omega),fK hs]) (λrec s=>by simp only[dF,ab])]
 rfl
def Ir (e:D.aAG)(h:e.sz<=34359738368):qL e=some e:=by
 unfold qL
 simp only[aB (show szL D.Box.sz e.Boxes<=34359738368 from h),bd_s]
def aI0 (e:D.aAA)(h:e.sz<=34359738368):Na e=some e:=by
 unfold Na;rw[lV h];rfl
def J9 (e:D.aAA)(h:e.sz<=34359738368):zR e=some e:=by
 unfold zR;simp only[aB (show e.Data.length<=34359738368 from h),bd_s]
def aI1 (c:D.aAE)(h:c.sz<=34359738368):Nb c=some c:=by
 simp only[D.aAE.sz] at h
 unfold Nb
 rw[G7 (l:=c.History) (by omega) (λrec i s hi hs=>by
  have hz:=iY (f:=D.aAA.sz) hi
  simp only[dB hi,ac,aN hi,bd_s,aB (show c.History[i].sz<=34359738368 by omega),fK hs]) (λrec s=>by simp only[dF,ab])]
 simp only[aB (show c.Log.length<=34359738368 by omega),aB (show c.Boxes.sz<=34359738368 by simp only[D.aAG.sz];omega),bd_s]
def aBg (c:D.aAE)(h:c.sz<=34359738368):Cw c=some c:=by
 simp only[D.aAE.sz] at h
 unfold Cw
 rw[G7 (l:=c.History) (by omega) (λrec i s hi hs=>by
  have hz:=iY (f:=D.aAA.sz) hi
  simp only[dB hi,ac,aN hi,bd_s,aB (show c.History[i].sz<=34359738368 by omega),fK hs]) (λrec s=>by simp only[dF,ab])]
 simp only[aB (show c.Log.length<=34359738368 by omega),aB (show c.Boxes.sz<=34359738368 by simp only[D.aAG.sz];omega),bd_s]
def aI2 (e:D.Account)(h:e.sz<=34359738368):Mq e=some e:=by
 unfold Mq;rw[lV h];rfl
def Wq (e:D.Account)(h:e.sz<=34359738368):xL e=some e:=by
 unfold xL;rw[lV h];rfl
def aI3 (e:D.aAB)(h:e.sz<=34359738368):Mr e=some e:=by
 unfold Mr;rw[lV h];rfl
def aEn (e:D.aAB)(h:e.sz<=34359738368):Ht e=some e:=by
 unfold Ht;rw[lV h];rfl
def aI4 (s:D.Site)(h:s.sz<=34359738368):Mt s=some s:=by
 simp only[D.Site.sz] at h
 unfold Mt
 rw[G7 (l:=s.Accounts) (by omega) (λrec i q hi hs=>by
  have hz:=iY (f:=D.Account.sz) hi
  simp only[dB hi,ac,aN hi,bd_s,aB (show s.Accounts[i].sz<=34359738368 by omega),fK hs]) (λrec q=>by simp only[dF,ab])]
 simp only[aB (show s.Book.sz<=34359738368 by simp only[D.aAB.sz];omega),bd_s,lV (show s.Logins.length<=34359738368 by omega),bm]
def aEo (s:D.Site)(h:s.sz<=34359738368):Hu s=some s:=by
 simp only[D.Site.sz] at h
 unfold Hu
 rw[G7 (l:=s.Accounts) (by omega) (λrec i q hi hs=>by
  have hz:=iY (f:=D.Account.sz) hi
  simp only[dB hi,ac,aN hi,bd_s,aB (show s.Accounts[i].sz<=34359738368 by omega),fK hs]) (λrec q=>by simp only[dF,ab])]
 simp only[aB (show s.Book.sz<=34359738368 by simp only[D.aAB.sz];omega),bd_s,aB (show nX s.Logins [] by unfold nX;simp;omega)]
 simp[kI]
def aI5 (e:D.aAF)(h:e.sz<=34359738368):Nj e=some e:=by
 unfold Nj;rw[lV h];rfl
def aEp (e:D.aAF)(h:e.sz<=34359738368):Hq e=some e:=by
 unfold Hq;rw[lV h];rfl
def aEq (l:List D.aAF)(h:szL D.aAF.sz l<=34359738368):Hl l=some l:=by
 unfold Hl
 unfold szL at h
 rw[bDp (l:=l) (by omega) (λrec i s hi hs=>by
  have hz:=iY (f:=D.aAF.sz) hi
  simp only[dB hi,ac,aN hi,bd_s,aB (show l[i].sz<=34359738368 by omega),fK hs]) (λrec s=>by simp only[dF,ab])]
 rfl
def aBh (l:List D.aAF)(h:szL D.aAF.sz l<=34359738368):Cx l=some l:=by
 unfold Cx
 unfold szL at h
 rw[bDp (l:=l) (by omega) (λrec i s hi hs=>by
  have hz:=iY (f:=D.aAF.sz) hi
  simp only[dB hi,ac,aN hi,bd_s,aB (show l[i].sz<=34359738368 by omega),fK hs]) (λrec s=>by simp only[dF,ab])]
 rfl
def aI6 (e:D.aAM)(h:e.sz<=34359738368):Nk e=some e:=by
 unfold Nk;rw[lV h];rfl
def aEr (e:D.aAM)(h:e.sz<=34359738368):Hr e=some e:=by
 unfold Hr;rw[lV h];rfl
def aI7 (w:D.World)(h:w.sz<=34359738368):Nl w=some w:=by
 simp only[D.World.sz] at h
 unfold Nl
 rw[G7 (l:=w.Devices) (by omega) (λrec i q hi hs=>by
  have hz:=iY (f:=D.Device.sz) hi
  simp only[dB hi,ac,aN hi,bd_s,aB (show w.Devices[i].sz<=34359738368 by omega),fK hs]) (λrec q=>by simp only[dF,ab]),
  G7 (l:=w.Sites) (by omega) (λrec i q hi hs=>by
  have hz:=iY (f:=D.Site.sz) hi
  simp only[dB hi,ac,aN hi,bd_s,aB (show w.Sites[i].sz<=34359738368 by omega),fK hs]) (λrec q=>by simp only[dF,ab])]
 simp only[bd_s,lV (show w.Stolen.length<=34359738368 by omega),aB (show w.aAE.sz<=34359738368 by simp only[D.aAE.sz];omega),aB (show szL D.aAF.sz w.Hosts<=34359738368 by unfold szL;omega),aB (show w.Mail.sz<=34359738368 by simp only[D.aAM.sz];omega),bm]
def aBi (w:D.World)(h:w.sz<=34359738368):Cy w=some w:=by
 simp only[D.World.sz] at h
 unfold Cy
 rw[G7 (l:=w.Devices) (by omega) (λrec i q hi hs=>by
  have hz:=iY (f:=D.Device.sz) hi
  simp only[dB hi,ac,aN hi,bd_s,aB (show w.Devices[i].sz<=34359738368 by omega),fK hs]) (λrec q=>by simp only[dF,ab]),
  G7 (l:=w.Sites) (by omega) (λrec i q hi hs=>by
  have hz:=iY (f:=D.Site.sz) hi
  simp only[dB hi,ac,aN hi,bd_s,aB (show w.Sites[i].sz<=34359738368 by omega),fK hs]) (λrec q=>by simp only[dF,ab])]
 simp only[bd_s,lV (show w.Stolen.length<=34359738368 by omega),aB (show w.aAE.sz<=34359738368 by simp only[D.aAE.sz];omega),aB (show szL D.aAF.sz w.Hosts<=34359738368 by unfold szL;omega),aB (show w.Mail.sz<=34359738368 by simp only[D.aAM.sz];omega),bm]
end
end Go.VK
