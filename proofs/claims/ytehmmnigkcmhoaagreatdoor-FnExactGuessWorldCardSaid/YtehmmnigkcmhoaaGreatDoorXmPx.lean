import Derived.Test.YtehmmnigkcmhoaaGreatDoorXmPu
import Derived.Test.YtehmmnigkcmhoaaGreatDoorXmQ
/- Printed by wip/tools: models, walks, proofs. -/
set_option linter.unusedVariables false
set_option linter.unusedSimpArgs false
set_option maxRecDepth 100000
set_option maxHeartbeats 4000000
namespace Go.VK
open Go.RowKit Go.Proofs
noncomputable section
open EV (cB)
theorem Yj {m:Int}{F:(Int×Int×Int→Option Int)→Int×Int×Int→Option Int}(hF:∀rec (b n s:Int),0≤n→n<9223372036854775807→F rec (b,n,s)=bif decide (n>0) then rec ((IntKind.i64.wrap (b*b)).tmod m,n/2,bif n%2==1 then(IntKind.i64.wrap (s*b)).tmod m else s) else some s):
  ∀(k:Nat) (b n s:Int) (f:Nat),k<f→0≤n→n<2^k→k≤62→cB f F (b,n,s)=some (Er m k b n s)
 |0,b,n,s,f+1,hf,h0,h1,hk=>by
  have:n=0:=by simp at h1;omega
  subst this;rw[Qj,hF _ _ _ _ (by omega) (by omega)];rfl
 |k+1,b,n,s,f+1,hf,h0,h1,hk=>by
  have h2:(2:Int)^(k+1)=2*2^k:=by rw[Int.pow_succ];omega
  have h3:n<2^62:=Int.lt_of_lt_of_le h1 (by exact_mod_cast Nat.pow_le_pow_right (by omega) hk)
  rw[Qj,hF _ _ _ _ h0 (by omega)]
  unfold Er
  by_cases hn:n>0
  ·rw[decide_eq_true hn,cond_true,if_pos hn]
   exact Yj hF k _ (n/2) _ f (by omega) (by omega) (by omega) (by omega)
  ·rw[decide_eq_false hn,cond_false,if_neg hn]
theorem aYe:((2039:Int)≠0)=True:=by simp
theorem Yk (b n:Int)(h:0≤n∧n<2048):lT b n=some (Er 2039 11 b n 1):=by
 unfold lT
 rw[Yj (m:=2039) (fun rec b n s h0 h1=>by simp only[show aP3 .i64 n 1=n%2 from and_one h0 (by omega),show aFk .i64 n 1=n/2 from aT4 h0,aYe,gd_T,kL,bd_s,aG (show(0:Int)≤1 by decide)]) 11 b n 1 FUEL (by have:=nQ;omega) h.1 (by have:=h.2;omega) (by omega)];rfl
theorem Rc (b n:Int)(h:0≤n∧n<2048)(hb:0≤b∧b<2039):eO b n 2039=some (Er 2039 11 b n 1):=by
 unfold eO
 rw[show b.tmod 2039=b by rw[Int.tmod_eq_emod_of_nonneg hb.1];omega,show(1:Int).tmod 2039=1 by decide,Yj (m:=2039) (fun rec b n s h0 h1=>by
  have h4:((2:Int)≠0)=True:=by simp
  simp only[show n.tmod 2=n%2 from Int.tmod_eq_emod_of_nonneg h0,show n.tdiv 2=n/2 from Int.tdiv_eq_ediv_of_nonneg h0,show IntKind.i64.wrap (n/2)=n/2 from bN (by omega) (by omega),aYe,h4,gd_T,kL,bd_s]) 11 b n 1 FUEL (by have:=nQ;omega) h.1 (by have:=h.2;omega) (by omega)]
 simp only[aYe,gd_T,bd_s]
theorem Fh (x:Int):mV x=some (gB x):=by
 unfold mV gB
 rw[Yk _ _ (by decide)]
 cases cZ x 1 2038<;>rfl
theorem Fj (x:Int):nA x=some (gB x):=by
 unfold nA gB
 cases h:cZ x 1 2038 with
 |false=>rfl
 |true=>
  have:=aFj h
  rw[Rc _ _ (by decide) ⟨by omega,by omega⟩];rfl
theorem aDg (g n:Int):Dl g n=some (dO g n):=by
 unfold Dl dO
 have hr:=rM (p:=n) (q:=1019) (by decide)
 rw[Yk _ _ ⟨hr.1,by omega⟩]
 cases gB g<;>rfl
theorem aDh (g n:Int):Dw g n=some (dO g n):=by
 unfold Dw dO
 have hr:=rM (p:=n) (q:=1019) (by decide)
 cases h:gB g with
 |false=>rfl
 |true=>
  have h':=h
  unfold gB at h'
  rw[Bool.and_eq_true] at h'
  have:=aFj h'.1
  rw[Rc _ _ ⟨hr.1,by omega⟩ ⟨by omega,by omega⟩];rfl
theorem Ti (a b:Int):sU a b=some (Al a b):=by
 unfold sU
 rw[aG (by simp),bd_s,aG (by decide),aG (by decide)];rfl
theorem Tj (a b:Int):tK a b=some (Al a b):=by
 unfold tK
 rw[aG (by simp),bd_s,aG (by decide),aG (by decide)];rfl
theorem R4 (a b:Int):yA a b=some (qW a b):=by
 unfold yA qW
 rw[aG (by simp),bd_s]
 have h:=(Xb a [157,b]).1
 generalize fI a [157,b]=n at h ⊢
 unfold aRe wG
 by_cases h1:n>1
 ·rw[decide_eq_true h1,show(n==0)=false by simp;omega];rfl
 ·rw[decide_eq_false h1]
  by_cases h2:n=0
  ·subst h2;rfl
  ·have:n=1:=by omega
   subst this;rfl
theorem R5 (a b:Int):yO a b=some (qW a b):=by
 unfold yO
 rw[aG (by simp)];rfl
theorem Yl (a b:Int):vH a b=some (qX a b):=by
 unfold vH
 rw[aG (by simp)];rfl
theorem Ym (a b:Int):vQ a b=some (qX a b):=by
 unfold vQ
 rw[aG (by simp)];rfl
theorem aIf (a b:Int):Jp a b=some (Xf a b):=by
 unfold Jp Xf
 rw[aG (by simp)]
 cases cZ a 0 2147483647<;>rfl
theorem aIg (a b:Int):Ju a b=some (Xf a b):=by
 unfold Ju Xf
 rw[aG (by simp)]
 cases cZ a 0 2147483647<;>rfl
end
end Go.VK
