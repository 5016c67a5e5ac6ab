import Derived.Test.YtjmlamaddedhlaaGreatDoorXrPzb
import Derived.Test.YtjmlamaddedhlaaGreatDoorXrM
import Derived.Test.YtjmlamaddedhlaaGreatDoorLKatop
/- Printed by wip/tools: models, walks, proofs. -/
set_option linter.all false
set_option maxRecDepth 100000
set_option maxHeartbeats 4000000
namespace Go.VK
open Go.RowKit Go.Proofs
noncomputable section
open EV (bO)
def Ni (a b:D.aAC)(h:a.sz<=34359738368):rF a b=some (oH a b):=by
 unfold rF oH
 have hl:a.Entries.length<=34359738368:=by simp only[D.aAC.sz] at h;omega
 by_cases he:a.Entries.length=b.Entries.length
 ·rw[show((a.Entries.length:Int) !=(b.Entries.length:Int))=false by simp[he],ac,cF.2 he,dc]
  rw[jV (l:=a.Entries.zip b.Entries) (λp=> !D.Entry.eqB p.1 p.2) (.inl false) (.inr ()) (by rw[iy];omega) (λrec i hi=>by
   rw[iy] at hi
   simp only[bY (show i<a.Entries.length by omega),ae,aK (show i<a.Entries.length by omega),aK (show i<b.Entries.length by omega),bd_s,List.getElem_zip];rfl) (λrec=>by
   rw[iy,<-he,Nat.min_self];simp only[cB,ac]),aVj]
  cases(List.zipWith D.Entry.eqB a.Entries b.Entries).all id<;>rfl
 ·rw[show((a.Entries.length:Int) !=(b.Entries.length:Int))=true by simp;omega,ae,ct.2 he];rfl
end
end Go.VK
