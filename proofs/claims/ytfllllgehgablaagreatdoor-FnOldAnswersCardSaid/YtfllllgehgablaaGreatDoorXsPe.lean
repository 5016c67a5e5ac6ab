import Derived.Test.YtfllllgehgablaaGreatDoorXsPd
import Derived.Test.YtfllllgehgablaaGreatDoorXsM
/- Printed by wip/tools: models, walks, proofs. -/
set_option linter.all false
set_option maxRecDepth 100000
set_option maxHeartbeats 4000000
namespace Go.VK
open Go.RowKit Go.Proofs
noncomputable section
open EV (bU)
def aJg (l:List D.aAC)(h:l.length<=34359738368):Mg l=some l:=by
 unfold Mg;rw[lU h];rfl
def aJh (l:List D.aAC)(h:l.length<=34359738368):Np l=some l:=by
 unfold Np;rw[lU h];rfl
def aBn (l:List Int)(h:l.length<=34359738368):Dk l=some l:=by
 unfold Dk;rw[lU h];rfl
def aJi (d:D.Device)(h:d.sz<=34359738368):Mw d=some d:=by
 simp only[D.Device.sz] at h
 unfold Mw
 simp only[aB (show d.Log.length<=34359738368 by omega),aB (show d.aAF.sz<=34359738368 by simp only[D.aAF.sz];omega),bd_s]
def L6 (d:D.Device)(h:d.sz<=34359738368):Aa d=some d:=by
 simp only[D.Device.sz] at h
 unfold Aa
 simp only[aB (show d.Log.length<=34359738368 by omega),aB (show d.aAF.sz<=34359738368 by simp only[D.aAF.sz];omega),bd_s]
def aJj (e:D.aAE)(h:e.sz<=34359738368):Mk e=some e:=by
 simp only[D.aAE.sz] at h
 unfold Mk
 rw[G5 (l:=e.Boxes) (by omega) (λrec i s hi hs=>by
  have hz:=jA (f:=D.Box.sz) hi
  simp only[D.Box.sz] at hz h
  simp only[dL hi,ae,aM hi,bd_s,lU (show e.Boxes[i].Data.length<=34359738368 by omega),fF hs,bn]) (λrec s=>by simp only[dP,ab])]
 rfl
def aBo (l:List D.Box)(h:G6 D.Box.sz l<=34359738368):Dl l=some l:=by
 unfold Dl
 unfold G6 at h
 rw[bE3 (l:=l) (by omega) (λrec i s hi hs=>by
  have hz:=jA (f:=D.Box.sz) hi
  simp only[D.Box.sz] at hz h
  simp only[dL hi,ae,aM hi,bd_s,aB (show l[i].Data.length<=34359738368 by omega),fF hs]) (λrec s=>by simp only[dP,ab])]
 rfl
def Iz (e:D.aAE)(h:e.sz<=34359738368):qO e=some e:=by
 unfold qO
 simp only[aB (show G6 D.Box.sz e.Boxes<=34359738368 from h),bd_s]
def aJk (e:D.aAA)(h:e.sz<=34359738368):Na e=some e:=by
 unfold Na;rw[lU h];rfl
def L8 (e:D.aAA)(h:e.sz<=34359738368):zY e=some e:=by
 unfold zY;simp only[aB (show e.Data.length<=34359738368 from h),bd_s]
def aJl (c:D.aAB)(h:c.sz<=34359738368):Nb c=some c:=by
 simp only[D.aAB.sz] at h
 unfold Nb
 rw[G5 (l:=c.History) (by omega) (λrec i s hi hs=>by
  have hz:=jA (f:=D.aAA.sz) hi
  simp only[dL hi,ae,aM hi,bd_s,aB (show c.History[i].sz<=34359738368 by omega),fF hs]) (λrec s=>by simp only[dP,ab])]
 simp only[aB (show c.Log.length<=34359738368 by omega),aB (show c.Boxes.sz<=34359738368 by simp only[D.aAE.sz];omega),bd_s]
def aBp (c:D.aAB)(h:c.sz<=34359738368):Dm c=some c:=by
 simp only[D.aAB.sz] at h
 unfold Dm
 rw[G5 (l:=c.History) (by omega) (λrec i s hi hs=>by
  have hz:=jA (f:=D.aAA.sz) hi
  simp only[dL hi,ae,aM hi,bd_s,aB (show c.History[i].sz<=34359738368 by omega),fF hs]) (λrec s=>by simp only[dP,ab])]
 simp only[aB (show c.Log.length<=34359738368 by omega),aB (show c.Boxes.sz<=34359738368 by simp only[D.aAE.sz];omega),bd_s]
def aJm (e:D.aAH)(h:e.sz<=34359738368):Mq e=some e:=by
 unfold Mq;rw[lU h];rfl
def We (e:D.aAH)(h:e.sz<=34359738368):xK e=some e:=by
 unfold xK;rw[lU h];rfl
def aJn (e:D.aAD)(h:e.sz<=34359738368):Mr e=some e:=by
 unfold Mr;rw[lU h];rfl
def aE3 (e:D.aAD)(h:e.sz<=34359738368):Ii e=some e:=by
 unfold Ii;rw[lU h];rfl
def aJo (s:D.Site)(h:s.sz<=34359738368):Mt s=some s:=by
 simp only[D.Site.sz] at h
 unfold Mt
 rw[G5 (l:=s.Accounts) (by omega) (λrec i q hi hs=>by
  have hz:=jA (f:=D.aAH.sz) hi
  simp only[dL hi,ae,aM hi,bd_s,aB (show s.Accounts[i].sz<=34359738368 by omega),fF hs]) (λrec q=>by simp only[dP,ab])]
 simp only[aB (show s.Book.sz<=34359738368 by simp only[D.aAD.sz];omega),bd_s,lU (show s.Logins.length<=34359738368 by omega),bn]
def aE4 (s:D.Site)(h:s.sz<=34359738368):Ij s=some s:=by
 simp only[D.Site.sz] at h
 unfold Ij
 rw[G5 (l:=s.Accounts) (by omega) (λrec i q hi hs=>by
  have hz:=jA (f:=D.aAH.sz) hi
  simp only[dL hi,ae,aM hi,bd_s,aB (show s.Accounts[i].sz<=34359738368 by omega),fF hs]) (λrec q=>by simp only[dP,ab])]
 simp only[aB (show s.Book.sz<=34359738368 by simp only[D.aAD.sz];omega),bd_s,aB (show wG s.Logins [] by unfold wG;simp;omega)]
 simp[oQ]
def aJp (e:D.aAG)(h:e.sz<=34359738368):Nj e=some e:=by
 unfold Nj;rw[lU h];rfl
def aE5 (e:D.aAG)(h:e.sz<=34359738368):Ig e=some e:=by
 unfold Ig;rw[lU h];rfl
def aE6 (l:List D.aAG)(h:G6 D.aAG.sz l<=34359738368):Hz l=some l:=by
 unfold Hz
 unfold G6 at h
 rw[bE3 (l:=l) (by omega) (λrec i s hi hs=>by
  have hz:=jA (f:=D.aAG.sz) hi
  simp only[dL hi,ae,aM hi,bd_s,aB (show l[i].sz<=34359738368 by omega),fF hs]) (λrec s=>by simp only[dP,ab])]
 rfl
def aBq (l:List D.aAG)(h:G6 D.aAG.sz l<=34359738368):Dp l=some l:=by
 unfold Dp
 unfold G6 at h
 rw[bE3 (l:=l) (by omega) (λrec i s hi hs=>by
  have hz:=jA (f:=D.aAG.sz) hi
  simp only[dL hi,ae,aM hi,bd_s,aB (show l[i].sz<=34359738368 by omega),fF hs]) (λrec s=>by simp only[dP,ab])]
 rfl
def aJq (e:D.aAJ)(h:e.sz<=34359738368):Nk e=some e:=by
 unfold Nk;rw[lU h];rfl
def aE7 (e:D.aAJ)(h:e.sz<=34359738368):Ih e=some e:=by
 unfold Ih;rw[lU h];rfl
def aJr (w:D.World)(h:w.sz<=34359738368):Nl w=some w:=by
 simp only[D.World.sz] at h
 unfold Nl
 rw[G5 (l:=w.Devices) (by omega) (λrec i q hi hs=>by
  have hz:=jA (f:=D.Device.sz) hi
  simp only[dL hi,ae,aM hi,bd_s,aB (show w.Devices[i].sz<=34359738368 by omega),fF hs]) (λrec q=>by simp only[dP,ab]),
  G5 (l:=w.Sites) (by omega) (λrec i q hi hs=>by
  have hz:=jA (f:=D.Site.sz) hi
  simp only[dL hi,ae,aM hi,bd_s,aB (show w.Sites[i].sz<=34359738368 by omega),fF hs]) (λrec q=>by simp only[dP,ab])]
 simp only[bd_s,lU (show w.Stolen.length<=34359738368 by omega),aB (show w.aAB.sz<=34359738368 by simp only[D.aAB.sz];omega),aB (show G6 D.aAG.sz w.Hosts<=34359738368 by unfold G6;omega),aB (show w.Mail.sz<=34359738368 by simp only[D.aAJ.sz];omega),bn]
def aBr (w:D.World)(h:w.sz<=34359738368):Dq w=some w:=by
 simp only[D.World.sz] at h
 unfold Dq
 rw[G5 (l:=w.Devices) (by omega) (λrec i q hi hs=>by
  have hz:=jA (f:=D.Device.sz) hi
  simp only[dL hi,ae,aM hi,bd_s,aB (show w.Devices[i].sz<=34359738368 by omega),fF hs]) (λrec q=>by simp only[dP,ab]),
  G5 (l:=w.Sites) (by omega) (λrec i q hi hs=>by
  have hz:=jA (f:=D.Site.sz) hi
  simp only[dL hi,ae,aM hi,bd_s,aB (show w.Sites[i].sz<=34359738368 by omega),fF hs]) (λrec q=>by simp only[dP,ab])]
 simp only[bd_s,lU (show w.Stolen.length<=34359738368 by omega),aB (show w.aAB.sz<=34359738368 by simp only[D.aAB.sz];omega),aB (show G6 D.aAG.sz w.Hosts<=34359738368 by unfold G6;omega),aB (show w.Mail.sz<=34359738368 by simp only[D.aAJ.sz];omega),bn]
end
end Go.VK
