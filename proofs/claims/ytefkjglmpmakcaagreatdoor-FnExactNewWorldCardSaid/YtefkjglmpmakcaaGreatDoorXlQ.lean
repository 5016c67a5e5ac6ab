import Derived.Test.YtefkjglmpmakcaaGreatDoorXlM
/- Printed by wip/tools: models, walks, proofs. -/
set_option linter.unusedVariables false
set_option linter.unusedSimpArgs false
set_option maxRecDepth 100000
set_option maxHeartbeats 4000000
namespace Go.VK
open Go.RowKit Go.Proofs
noncomputable section
open EV (bS)
theorem L6 (a0:D.aAH)(a1:D.aAH)(h:eO (0) a0 a1):yP a0 a1=some (true):=by
 obtain⟨rfl,hz⟩:=h
 unfold yP
 simp only[beq_self_eq_true,bne_self_eq_false,Bool.not_true,Bool.not_false,cond_true,cond_false,bd_s,nx_r]
theorem L8 (a0:D.aAB)(a1:D.aAB)(h:eO (0) a0 a1):yQ a0 a1=some (true):=by
 obtain⟨rfl,hz⟩:=h
 unfold yQ
 simp only[beq_self_eq_true,bne_self_eq_false,Bool.not_true,Bool.not_false,cond_true,cond_false,bd_s,nx_r]
theorem Vt (a0:List D.aAB)(a1:List D.aAB)(h:eO (a0.length) a0 a1):wB a0 a1=some (true):=by
 obtain⟨rfl,hz⟩:=h
 unfold wB
 rw[mM (a:=a0) (by omega) (fun rec i hi=>by
  simp only[bJ hi,aF hi,aB (show eO (0) a0[i] a0[i] from⟨rfl,by omega⟩),beq_self_eq_true,bne_self_eq_false,Bool.not_true,Bool.not_false,cond_true,cond_false,bd_s,nx_r]) (fun rec=>by simp only[bM,cond_false])]
 simp only[beq_self_eq_true,bne_self_eq_false,Bool.not_true,Bool.not_false,cond_true,cond_false,bd_s,nx_r]
theorem aLy (a0:D.Entry)(a1:D.Entry)(h:eO (0) a0 a1):Na a0 a1=some (true):=by
 obtain⟨rfl,hz⟩:=h
 unfold Na
 simp only[beq_self_eq_true,bne_self_eq_false,Bool.not_true,Bool.not_false,cond_true,cond_false,bd_s,nx_r]
theorem aG1 (a0:List D.Entry)(a1:List D.Entry)(h:eO (a0.length) a0 a1):Hf a0 a1=some (true):=by
 obtain⟨rfl,hz⟩:=h
 unfold Hf
 rw[mM (a:=a0) (by omega) (fun rec i hi=>by
  simp only[bJ hi,aF hi,aB (show eO (0) a0[i] a0[i] from⟨rfl,by omega⟩),beq_self_eq_true,bne_self_eq_false,Bool.not_true,Bool.not_false,cond_true,cond_false,bd_s,nx_r]) (fun rec=>by simp only[bM,cond_false])]
 simp only[beq_self_eq_true,bne_self_eq_false,Bool.not_true,Bool.not_false,cond_true,cond_false,bd_s,nx_r]
theorem aG2 (a0:D.aAC)(a1:D.aAC)(h:eO (a0.sz) a0 a1):Hg a0 a1=some (true):=by
 obtain⟨rfl,hz⟩:=h
 unfold Hg
 simp only[D.aAC.sz] at hz
 simp only[beq_self_eq_true,bne_self_eq_false,Bool.not_true,Bool.not_false,cond_true,cond_false,bd_s,nx_r,aB (show eO (a0.Entries.length) a0.Entries a0.Entries from⟨rfl,by omega⟩)]
theorem aG3 (a0:D.Device)(a1:D.Device)(h:eO (a0.sz) a0 a1):Hl a0 a1=some (true):=by
 obtain⟨rfl,hz⟩:=h
 unfold Hl
 simp only[D.aAC.sz,D.Device.sz,D.aAH.sz] at hz
 simp only[beq_self_eq_true,bne_self_eq_false,Bool.not_true,Bool.not_false,cond_true,cond_false,bd_s,nx_r,aB (show eO (0) a0.Store a0.Store from⟨rfl,by omega⟩),aB (show eO (a0.Log.length) a0.Log a0.Log from⟨rfl,by omega⟩),aB (show eO (a0.aAC.sz) a0.aAC a0.aAC from⟨rfl,by simp only[D.aAC.sz];omega⟩)]
theorem aBu (a0:List D.Device)(a1:List D.Device)(h:eO (a0.length+(a0.map D.Device.sz).sum) a0 a1):Cb a0 a1=some (true):=by
 obtain⟨rfl,hz⟩:=h
 unfold Cb
 rw[mM (a:=a0) (by omega) (fun rec i hi=>by
  have hs:=fO (f:=D.Device.sz) hi
  simp only[bJ hi,aF hi,aB (show eO (a0[i].sz) a0[i] a0[i] from⟨rfl,by omega⟩),beq_self_eq_true,bne_self_eq_false,Bool.not_true,Bool.not_false,cond_true,cond_false,bd_s,nx_r]) (fun rec=>by simp only[bM,cond_false])]
 simp only[beq_self_eq_true,bne_self_eq_false,Bool.not_true,Bool.not_false,cond_true,cond_false,bd_s,nx_r]
theorem aLz (a0:List Bool)(a1:List Bool)(h:eO (a0.length) a0 a1):Nb a0 a1=some (true):=by
 obtain⟨rfl,hz⟩:=h
 unfold Nb
 rw[mM (a:=a0) (by omega) (fun rec i hi=>by
  simp only[bJ hi,aF hi,beq_self_eq_true,bne_self_eq_false,Bool.not_true,Bool.not_false,cond_true,cond_false,bd_s,nx_r]) (fun rec=>by simp only[bM,cond_false])]
 simp only[beq_self_eq_true,bne_self_eq_false,Bool.not_true,Bool.not_false,cond_true,cond_false,bd_s,nx_r]
theorem aL0 (a0:List Int)(a1:List Int)(h:eO (a0.length) a0 a1):Nc a0 a1=some (true):=by
 obtain⟨rfl,hz⟩:=h
 unfold Nc
 rw[mM (a:=a0) (by omega) (fun rec i hi=>by
  simp only[bJ hi,aF hi,beq_self_eq_true,bne_self_eq_false,Bool.not_true,Bool.not_false,cond_true,cond_false,bd_s,nx_r]) (fun rec=>by simp only[bM,cond_false])]
 simp only[beq_self_eq_true,bne_self_eq_false,Bool.not_true,Bool.not_false,cond_true,cond_false,bd_s,nx_r]
theorem aTl (a0:D.Box)(a1:D.Box)(h:eO (a0.sz) a0 a1):K9 a0 a1=some (true):=by
 obtain⟨rfl,hz⟩:=h
 unfold K9
 simp only[D.Box.sz] at hz
 simp only[beq_self_eq_true,bne_self_eq_false,Bool.not_true,Bool.not_false,cond_true,cond_false,bd_s,nx_r,aB (show eO (a0.Data.length) a0.Data a0.Data from⟨rfl,by omega⟩)]
theorem aPi (a0:List D.Box)(a1:List D.Box)(h:eO (a0.length+(a0.map D.Box.sz).sum) a0 a1):Uc a0 a1=some (true):=by
 obtain⟨rfl,hz⟩:=h
 unfold Uc
 rw[mM (a:=a0) (by omega) (fun rec i hi=>by
  have hs:=fO (f:=D.Box.sz) hi
  simp only[bJ hi,aF hi,aB (show eO (a0[i].sz) a0[i] a0[i] from⟨rfl,by omega⟩),beq_self_eq_true,bne_self_eq_false,Bool.not_true,Bool.not_false,cond_true,cond_false,bd_s,nx_r]) (fun rec=>by simp only[bM,cond_false])]
 simp only[beq_self_eq_true,bne_self_eq_false,Bool.not_true,Bool.not_false,cond_true,cond_false,bd_s,nx_r]
theorem Qe (a0:D.aAD)(a1:D.aAD)(h:eO (a0.sz) a0 a1):sQ a0 a1=some (true):=by
 obtain⟨rfl,hz⟩:=h
 unfold sQ
 simp only[D.aAD.sz] at hz
 simp only[beq_self_eq_true,bne_self_eq_false,Bool.not_true,Bool.not_false,cond_true,cond_false,bd_s,nx_r,aB (show eO (a0.Boxes.length+(a0.Boxes.map D.Box.sz).sum) a0.Boxes a0.Boxes from⟨rfl,by omega⟩)]
theorem Ii (a0:D.aAA)(a1:D.aAA)(h:eO (a0.sz) a0 a1):pJ a0 a1=some (true):=by
 obtain⟨rfl,hz⟩:=h
 unfold pJ
 simp only[D.aAA.sz] at hz
 simp only[beq_self_eq_true,bne_self_eq_false,Bool.not_true,Bool.not_false,cond_true,cond_false,bd_s,nx_r,aB (show eO (a0.Data.length) a0.Data a0.Data from⟨rfl,by omega⟩)]
theorem Eg (a0:List D.aAA)(a1:List D.aAA)(h:eO (a0.length+(a0.map D.aAA.sz).sum) a0 a1):nW a0 a1=some (true):=by
 obtain⟨rfl,hz⟩:=h
 unfold nW
 rw[mM (a:=a0) (by omega) (fun rec i hi=>by
  have hs:=fO (f:=D.aAA.sz) hi
  simp only[bJ hi,aF hi,aB (show eO (a0[i].sz) a0[i] a0[i] from⟨rfl,by omega⟩),beq_self_eq_true,bne_self_eq_false,Bool.not_true,Bool.not_false,cond_true,cond_false,bd_s,nx_r]) (fun rec=>by simp only[bM,cond_false])]
 simp only[beq_self_eq_true,bne_self_eq_false,Bool.not_true,Bool.not_false,cond_true,cond_false,bd_s,nx_r]
theorem aL1 (a0:D.aAJ)(a1:D.aAJ)(h:eO (a0.sz) a0 a1):Nf a0 a1=some (true):=by
 obtain⟨rfl,hz⟩:=h
 unfold Nf
 simp only[D.aAJ.sz,D.aAD.sz] at hz
 simp only[beq_self_eq_true,bne_self_eq_false,Bool.not_true,Bool.not_false,cond_true,cond_false,bd_s,nx_r,aB (show eO (a0.Log.length) a0.Log a0.Log from⟨rfl,by omega⟩),aB (show eO (a0.Boxes.sz) a0.Boxes a0.Boxes from⟨rfl,by simp only[D.aAD.sz];omega⟩),aB (show eO (a0.History.length+(a0.History.map D.aAA.sz).sum) a0.History a0.History from⟨rfl,by omega⟩)]
theorem Qf (a0:D.aAI)(a1:D.aAI)(h:eO (0) a0 a1):sS a0 a1=some (true):=by
 obtain⟨rfl,hz⟩:=h
 unfold sS
 simp only[beq_self_eq_true,bne_self_eq_false,Bool.not_true,Bool.not_false,cond_true,cond_false,bd_s,nx_r]
theorem Nl (a0:List D.aAI)(a1:List D.aAI)(h:eO (a0.length) a0 a1):rG a0 a1=some (true):=by
 obtain⟨rfl,hz⟩:=h
 unfold rG
 rw[mM (a:=a0) (by omega) (fun rec i hi=>by
  simp only[bJ hi,aF hi,aB (show eO (0) a0[i] a0[i] from⟨rfl,by omega⟩),beq_self_eq_true,bne_self_eq_false,Bool.not_true,Bool.not_false,cond_true,cond_false,bd_s,nx_r]) (fun rec=>by simp only[bM,cond_false])]
 simp only[beq_self_eq_true,bne_self_eq_false,Bool.not_true,Bool.not_false,cond_true,cond_false,bd_s,nx_r]
theorem aBv (a0:D.aAF)(a1:D.aAF)(h:eO (a0.sz) a0 a1):Cc a0 a1=some (true):=by
 obtain⟨rfl,hz⟩:=h
 unfold Cc
 simp only[D.aAF.sz] at hz
 simp only[beq_self_eq_true,bne_self_eq_false,Bool.not_true,Bool.not_false,cond_true,cond_false,bd_s,nx_r,aB (show eO (a0.Credentials.length) a0.Credentials a0.Credentials from⟨rfl,by omega⟩)]
theorem L9 (a0:List D.aAF)(a1:List D.aAF)(h:eO (a0.length+(a0.map D.aAF.sz).sum) a0 a1):yR a0 a1=some (true):=by
 obtain⟨rfl,hz⟩:=h
 unfold yR
 rw[mM (a:=a0) (by omega) (fun rec i hi=>by
  have hs:=fO (f:=D.aAF.sz) hi
  simp only[bJ hi,aF hi,aB (show eO (a0[i].sz) a0[i] a0[i] from⟨rfl,by omega⟩),beq_self_eq_true,bne_self_eq_false,Bool.not_true,Bool.not_false,cond_true,cond_false,bd_s,nx_r]) (fun rec=>by simp only[bM,cond_false])]
 simp only[beq_self_eq_true,bne_self_eq_false,Bool.not_true,Bool.not_false,cond_true,cond_false,bd_s,nx_r]
theorem Vu (a0:D.aAK)(a1:D.aAK)(h:eO (0) a0 a1):wC a0 a1=some (true):=by
 obtain⟨rfl,hz⟩:=h
 unfold wC
 simp only[beq_self_eq_true,bne_self_eq_false,Bool.not_true,Bool.not_false,cond_true,cond_false,bd_s,nx_r]
theorem Qg (a0:List D.aAK)(a1:List D.aAK)(h:eO (a0.length) a0 a1):sU a0 a1=some (true):=by
 obtain⟨rfl,hz⟩:=h
 unfold sU
 rw[mM (a:=a0) (by omega) (fun rec i hi=>by
  simp only[bJ hi,aF hi,aB (show eO (0) a0[i] a0[i] from⟨rfl,by omega⟩),beq_self_eq_true,bne_self_eq_false,Bool.not_true,Bool.not_false,cond_true,cond_false,bd_s,nx_r]) (fun rec=>by simp only[bM,cond_false])]
 simp only[beq_self_eq_true,bne_self_eq_false,Bool.not_true,Bool.not_false,cond_true,cond_false,bd_s,nx_r]
theorem Eh (a0:D.aAG)(a1:D.aAG)(h:eO (a0.sz) a0 a1):nX a0 a1=some (true):=by
 obtain⟨rfl,hz⟩:=h
 unfold nX
 simp only[D.aAG.sz] at hz
 simp only[beq_self_eq_true,bne_self_eq_false,Bool.not_true,Bool.not_false,cond_true,cond_false,bd_s,nx_r,aB (show eO (a0.Open.length) a0.Open a0.Open from⟨rfl,by omega⟩)]
theorem aPj (a0:List Int)(a1:List Int)(h:eO (a0.length) a0 a1):Ud a0 a1=some (true):=by
 obtain⟨rfl,hz⟩:=h
 unfold Ud
 rw[mM (a:=a0) (by omega) (fun rec i hi=>by
  simp only[bJ hi,aF hi,beq_self_eq_true,bne_self_eq_false,Bool.not_true,Bool.not_false,cond_true,cond_false,bd_s,nx_r]) (fun rec=>by simp only[bM,cond_false])]
 simp only[beq_self_eq_true,bne_self_eq_false,Bool.not_true,Bool.not_false,cond_true,cond_false,bd_s,nx_r]
theorem aPk (a0:D.Site)(a1:D.Site)(h:eO (a0.sz) a0 a1):Ue a0 a1=some (true):=by
 obtain⟨rfl,hz⟩:=h
 unfold Ue
 simp only[D.aAG.sz,D.Site.sz] at hz
 simp only[beq_self_eq_true,bne_self_eq_false,Bool.not_true,Bool.not_false,cond_true,cond_false,bd_s,nx_r,aB (show eO (a0.Accounts.length+(a0.Accounts.map D.aAF.sz).sum) a0.Accounts a0.Accounts from⟨rfl,by omega⟩),aB (show eO (a0.Book.sz) a0.Book a0.Book from⟨rfl,by simp only[D.aAG.sz];omega⟩),aB (show eO (a0.Logins.length) a0.Logins a0.Logins from⟨rfl,by omega⟩)]
theorem aL2 (a0:List D.Site)(a1:List D.Site)(h:eO (a0.length+(a0.map D.Site.sz).sum) a0 a1):Ng a0 a1=some (true):=by
 obtain⟨rfl,hz⟩:=h
 unfold Ng
 rw[mM (a:=a0) (by omega) (fun rec i hi=>by
  have hs:=fO (f:=D.Site.sz) hi
  simp only[bJ hi,aF hi,aB (show eO (a0[i].sz) a0[i] a0[i] from⟨rfl,by omega⟩),beq_self_eq_true,bne_self_eq_false,Bool.not_true,Bool.not_false,cond_true,cond_false,bd_s,nx_r]) (fun rec=>by simp only[bM,cond_false])]
 simp only[beq_self_eq_true,bne_self_eq_false,Bool.not_true,Bool.not_false,cond_true,cond_false,bd_s,nx_r]
theorem aL3 (a0:D.aAQ)(a1:D.aAQ)(h:eO (0) a0 a1):Nh a0 a1=some (true):=by
 obtain⟨rfl,hz⟩:=h
 unfold Nh
 simp only[beq_self_eq_true,bne_self_eq_false,Bool.not_true,Bool.not_false,cond_true,cond_false,bd_s,nx_r]
theorem aL4 (a0:D.aAM)(a1:D.aAM)(h:eO (0) a0 a1):Ni a0 a1=some (true):=by
 obtain⟨rfl,hz⟩:=h
 unfold Ni
 simp only[beq_self_eq_true,bne_self_eq_false,Bool.not_true,Bool.not_false,cond_true,cond_false,bd_s,nx_r]
theorem aG4 (a0:D.aAL)(a1:D.aAL)(h:eO (0) a0 a1):Hm a0 a1=some (true):=by
 obtain⟨rfl,hz⟩:=h
 unfold Hm
 simp only[beq_self_eq_true,bne_self_eq_false,Bool.not_true,Bool.not_false,cond_true,cond_false,bd_s,nx_r,aB (show eO (0) a0.aAM a0.aAM from⟨rfl,by omega⟩)]
theorem aBw (a0:List D.aAL)(a1:List D.aAL)(h:eO (a0.length) a0 a1):Ce a0 a1=some (true):=by
 obtain⟨rfl,hz⟩:=h
 unfold Ce
 rw[mM (a:=a0) (by omega) (fun rec i hi=>by
  simp only[bJ hi,aF hi,aB (show eO (0) a0[i] a0[i] from⟨rfl,by omega⟩),beq_self_eq_true,bne_self_eq_false,Bool.not_true,Bool.not_false,cond_true,cond_false,bd_s,nx_r]) (fun rec=>by simp only[bM,cond_false])]
 simp only[beq_self_eq_true,bne_self_eq_false,Bool.not_true,Bool.not_false,cond_true,cond_false,bd_s,nx_r]
theorem Qh (a0:D.aAE)(a1:D.aAE)(h:eO (a0.sz) a0 a1):sW a0 a1=some (true):=by
 obtain⟨rfl,hz⟩:=h
 unfold sW
 simp only[D.aAL.sz,D.aAE.sz,D.aAM.sz] at hz
 simp only[beq_self_eq_true,bne_self_eq_false,Bool.not_true,Bool.not_false,cond_true,cond_false,bd_s,nx_r,aB (show eO (0) a0.State a0.State from⟨rfl,by omega⟩),aB (show eO (a0.Saved.length) a0.Saved a0.Saved from⟨rfl,by omega⟩)]
theorem Nn (a0:List D.aAE)(a1:List D.aAE)(h:eO (a0.length+(a0.map D.aAE.sz).sum) a0 a1):rH a0 a1=some (true):=by
 obtain⟨rfl,hz⟩:=h
 unfold rH
 rw[mM (a:=a0) (by omega) (fun rec i hi=>by
  have hs:=fO (f:=D.aAE.sz) hi
  simp only[bJ hi,aF hi,aB (show eO (a0[i].sz) a0[i] a0[i] from⟨rfl,by omega⟩),beq_self_eq_true,bne_self_eq_false,Bool.not_true,Bool.not_false,cond_true,cond_false,bd_s,nx_r]) (fun rec=>by simp only[bM,cond_false])]
 simp only[beq_self_eq_true,bne_self_eq_false,Bool.not_true,Bool.not_false,cond_true,cond_false,bd_s,nx_r]
theorem aG5 (a0:D.aAP)(a1:D.aAP)(h:eO (0) a0 a1):Ho a0 a1=some (true):=by
 obtain⟨rfl,hz⟩:=h
 unfold Ho
 simp only[beq_self_eq_true,bne_self_eq_false,Bool.not_true,Bool.not_false,cond_true,cond_false,bd_s,nx_r]
theorem aBx (a0:List D.aAP)(a1:List D.aAP)(h:eO (a0.length) a0 a1):Cf a0 a1=some (true):=by
 obtain⟨rfl,hz⟩:=h
 unfold Cf
 rw[mM (a:=a0) (by omega) (fun rec i hi=>by
  simp only[bJ hi,aF hi,aB (show eO (0) a0[i] a0[i] from⟨rfl,by omega⟩),beq_self_eq_true,bne_self_eq_false,Bool.not_true,Bool.not_false,cond_true,cond_false,bd_s,nx_r]) (fun rec=>by simp only[bM,cond_false])]
 simp only[beq_self_eq_true,bne_self_eq_false,Bool.not_true,Bool.not_false,cond_true,cond_false,bd_s,nx_r]
theorem aBy (a0:D.aAO)(a1:D.aAO)(h:eO (a0.sz) a0 a1):Cg a0 a1=some (true):=by
 obtain⟨rfl,hz⟩:=h
 unfold Cg
 simp only[D.aAO.sz] at hz
 simp only[beq_self_eq_true,bne_self_eq_false,Bool.not_true,Bool.not_false,cond_true,cond_false,bd_s,nx_r,aB (show eO (a0.Notices.length) a0.Notices a0.Notices from⟨rfl,by omega⟩)]
theorem aL5 (a0:D.World)(a1:D.World)(h:eO (a0.sz) a0 a1):Nj a0 a1=some (true):=by
 obtain⟨rfl,hz⟩:=h
 unfold Nj
 simp only[D.aAJ.sz,D.aAD.sz,D.aAO.sz,D.aAQ.sz,D.World.sz] at hz
 simp only[beq_self_eq_true,bne_self_eq_false,Bool.not_true,Bool.not_false,cond_true,cond_false,bd_s,nx_r,aB (show eO (a0.Devices.length+(a0.Devices.map D.Device.sz).sum) a0.Devices a0.Devices from⟨rfl,by omega⟩),aB (show eO (a0.Stolen.length) a0.Stolen a0.Stolen from⟨rfl,by omega⟩),aB (show eO (a0.aAJ.sz) a0.aAJ a0.aAJ from⟨rfl,by simp only[D.aAJ.sz,D.aAD.sz];omega⟩),aB (show eO (a0.Sites.length+(a0.Sites.map D.Site.sz).sum) a0.Sites a0.Sites from⟨rfl,by omega⟩),aB (show eO (0) a0.aAQ a0.aAQ from⟨rfl,by omega⟩),aB (show eO (a0.Hosts.length+(a0.Hosts.map D.aAE.sz).sum) a0.Hosts a0.Hosts from⟨rfl,by omega⟩),aB (show eO (a0.Mail.sz) a0.Mail a0.Mail from⟨rfl,by simp only[D.aAO.sz];omega⟩)]
theorem Np (a0:List D.aAB)(a1:Int)(h:jO (a0.length) (aA aG a0) a1):rJ a0 a1=some (bF aS a0 a1):=by
 obtain⟨hs,h0,h1⟩:=h
 unfold rJ
 rw[iA fD h0 h1 (by omega) (fun rec k i l hi hi0 hx hk0 hk1=>by
  unfold aG at hk1
  obtain⟨k0,q0⟩:∃z,z=IntKind.i64.wrap (k+1):=⟨_,rfl⟩
  have g0:k0=k+1:=q0.trans (aL (by omega) (by omega))
  obtain⟨k1,q1⟩:∃z,z=IntKind.i64.wrap (k0+1):=⟨_,rfl⟩
  have g1:k1=k0+1:=q1.trans (aL (by omega) (by omega))
  obtain⟨k2,q2⟩:∃z,z=IntKind.i64.wrap (k1+1):=⟨_,rfl⟩
  have g2:k2=k1+1:=q2.trans (aL (by omega) (by omega))
  obtain⟨k3,q3⟩:∃z,z=IntKind.i64.wrap (k2+1):=⟨_,rfl⟩
  have g3:k3=k2+1:=q3.trans (aL (by omega) (by omega))
  obtain⟨k4,q4⟩:∃z,z=IntKind.i64.wrap (k3+1):=⟨_,rfl⟩
  have g4:k4=k3+1:=q4.trans (aL (by omega) (by omega))
  obtain⟨k5,q5⟩:∃z,z=IntKind.i64.wrap (k4+1):=⟨_,rfl⟩
  have g5:k5=k4+1:=q5.trans (aL (by omega) (by omega))
  simp only[bJ hi,cond_true,aF hi,hx,mF hi,aF (show i<(l.set i _).length by simpa using hi),List.set_set,List.getElem_set_self,bd_s,gY,dV,gd_T,aS,←q0,←q1,←q2,←q3,←q4,←q5]) (fun rec k l=>by simp only[bM,cond_false])]
 rfl
theorem M0 (a0:List D.Entry)(a1:Int)(h:jO (a0.length) (aA dI a0) a1):yS a0 a1=some (bF gF a0 a1):=by
 obtain⟨hs,h0,h1⟩:=h
 unfold yS
 rw[iA rM h0 h1 (by omega) (fun rec k i l hi hi0 hx hk0 hk1=>by
  unfold dI at hk1
  obtain⟨k0,q0⟩:∃z,z=IntKind.i64.wrap (k+1):=⟨_,rfl⟩
  have g0:k0=k+1:=q0.trans (aL (by omega) (by omega))
  obtain⟨k1,q1⟩:∃z,z=IntKind.i64.wrap (k0+1):=⟨_,rfl⟩
  have g1:k1=k0+1:=q1.trans (aL (by omega) (by omega))
  obtain⟨k2,q2⟩:∃z,z=IntKind.i64.wrap (k1+1):=⟨_,rfl⟩
  have g2:k2=k1+1:=q2.trans (aL (by omega) (by omega))
  obtain⟨k3,q3⟩:∃z,z=IntKind.i64.wrap (k2+1):=⟨_,rfl⟩
  have g3:k3=k2+1:=q3.trans (aL (by omega) (by omega))
  simp only[bJ hi,cond_true,aF hi,hx,mF hi,aF (show i<(l.set i _).length by simpa using hi),List.set_set,List.getElem_set_self,bd_s,gY,dV,gd_T,gF,←q0,←q1,←q2,←q3]) (fun rec k l=>by simp only[bM,cond_false])]
 rfl
theorem Vv (a0:List D.Device)(a1:Int)(h:jO (a0.length+(a0.map D.Device.sz).sum) (aA aP a0) a1):wD a0 a1=some (bF bW a0 a1):=by
 obtain⟨hs,h0,h1⟩:=h
 unfold wD
 rw[iA nY h0 h1 (by omega) (fun rec k i l hi hi0 hx hk0 hk1=>by
  have hz:=fO (f:=D.Device.sz) hi0
  simp only[D.aAC.sz,D.Device.sz,D.aAH.sz] at hz
  unfold aP at hk1
  obtain⟨k0,q0⟩:∃z,z=IntKind.i64.wrap (k+1):=⟨_,rfl⟩
  have g0:k0=k+1:=q0.trans (aL (by omega) (by omega))
  obtain⟨k1,q1⟩:∃z,z=IntKind.i64.wrap (k0+1):=⟨_,rfl⟩
  have g1:k1=k0+1:=q1.trans (aL (by omega) (by omega))
  obtain⟨k2,q2⟩:∃z,z=IntKind.i64.wrap (k1+1):=⟨_,rfl⟩
  have g2:k2=k1+1:=q2.trans (aL (by omega) (by omega))
  obtain⟨k3,q3⟩:∃z,z=IntKind.i64.wrap (k2+1):=⟨_,rfl⟩
  have g3:k3=k2+1:=q3.trans (aL (by omega) (by omega))
  have p4:jO (a0[i].Log.length) (aA aG a0[i].Log) k3:=⟨by omega,by omega,by omega⟩
  have f4:=bN fD a0[i].Log k3 (by omega) (by omega)
  obtain⟨k4,q4⟩:∃z,z=(bF aS a0[i].Log k3).2:=⟨_,rfl⟩
  have g4:k4=k3+aA aG a0[i].Log:=q4.trans f4.1
  obtain⟨k5,q5⟩:∃z,z=IntKind.i64.wrap (k4+1):=⟨_,rfl⟩
  have g5:k5=k4+1:=q5.trans (aL (by omega) (by omega))
  obtain⟨k6,q6⟩:∃z,z=IntKind.i64.wrap (k5+1):=⟨_,rfl⟩
  have g6:k6=k5+1:=q6.trans (aL (by omega) (by omega))
  obtain⟨k7,q7⟩:∃z,z=IntKind.i64.wrap (k6+1):=⟨_,rfl⟩
  have g7:k7=k6+1:=q7.trans (aL (by omega) (by omega))
  have p8:jO (a0[i].aAC.Entries.length) (aA dI a0[i].aAC.Entries) k7:=⟨by omega,by omega,by omega⟩
  have f8:=bN rM a0[i].aAC.Entries k7 (by omega) (by omega)
  obtain⟨k8,q8⟩:∃z,z=(bF gF a0[i].aAC.Entries k7).2:=⟨_,rfl⟩
  have g8:k8=k7+aA dI a0[i].aAC.Entries:=q8.trans f8.1
  simp only[bJ hi,cond_true,aF hi,hx,mF hi,aF (show i<(l.set i _).length by simpa using hi),List.set_set,List.getElem_set_self,bd_s,gY,dV,gd_T,bW,←q0,←q1,←q2,←q3,←q4,←q5,←q6,←q7,←q8,aB p4,aB p8]) (fun rec k l=>by simp only[bM,cond_false])]
 rfl
theorem aBz (a0:List Bool)(a1:Int)(h:jO (a0.length) (aA fT a0) a1):Ch a0 a1=some (bF mkB a0 a1):=by
 obtain⟨hs,h0,h1⟩:=h
 unfold Ch
 rw[iA aLp h0 h1 (by omega) (fun rec k i l hi hi0 hx hk0 hk1=>by
  simp only[bJ hi,cond_true,aF hi,bd_s,gY,dV,gd_T,mkB]) (fun rec k l=>by simp only[bM,cond_false])]
 rfl
theorem aB0 (a0:List Int)(a1:Int)(h:jO (a0.length) (aA fT a0) a1):Ci a0 a1=some (bF mkU a0 a1):=by
 obtain⟨hs,h0,h1⟩:=h
 unfold Ci
 rw[iA Ld h0 h1 (by omega) (fun rec k i l hi hi0 hx hk0 hk1=>by
  simp only[bJ hi,cond_true,aF hi,bd_s,gY,dV,gd_T,mkU]) (fun rec k l=>by simp only[bM,cond_false])]
 rfl
theorem aG6 (a0:List D.Box)(a1:Int)(h:jO (a0.length+(a0.map D.Box.sz).sum) (aA eT a0) a1):Hq a0 a1=some (bF fE a0 a1):=by
 obtain⟨hs,h0,h1⟩:=h
 unfold Hq
 rw[iA lK h0 h1 (by omega) (fun rec k i l hi hi0 hx hk0 hk1=>by
  have hz:=fO (f:=D.Box.sz) hi0
  simp only[D.Box.sz] at hz
  unfold eT at hk1
  obtain⟨k0,q0⟩:∃z,z=IntKind.i64.wrap (k+1):=⟨_,rfl⟩
  have g0:k0=k+1:=q0.trans (aL (by omega) (by omega))
  obtain⟨k1,q1⟩:∃z,z=IntKind.i64.wrap (k0+1):=⟨_,rfl⟩
  have g1:k1=k0+1:=q1.trans (aL (by omega) (by omega))
  have p2:jO (a0[i].Data.length) (aA fT a0[i].Data) k1:=⟨by omega,by omega,by omega⟩
  have f2:=bN Ld a0[i].Data k1 (by omega) (by omega)
  obtain⟨k2,q2⟩:∃z,z=(bF mkU a0[i].Data k1).2:=⟨_,rfl⟩
  have g2:k2=k1+aA fT a0[i].Data:=q2.trans f2.1
  obtain⟨k3,q3⟩:∃z,z=IntKind.i64.wrap (k2+1):=⟨_,rfl⟩
  have g3:k3=k2+1:=q3.trans (aL (by omega) (by omega))
  simp only[bJ hi,cond_true,aF hi,hx,mF hi,aF (show i<(l.set i _).length by simpa using hi),List.set_set,List.getElem_set_self,bd_s,gY,dV,gd_T,fE,←q0,←q1,←q2,←q3,aB p2]) (fun rec k l=>by simp only[bM,cond_false])]
 rfl
theorem Ij (a0:D.aAD)(a1:Int)(h:jO (a0.sz) (aN a0) a1):pK a0 a1=some (dQ a0 a1):=by
 obtain⟨hs,h0,h1⟩:=h
 unfold aN at h1
 simp only[D.aAD.sz] at hs
 unfold pK dQ
 rw[aB (show jO _ _ _ from⟨by omega,by omega,by omega⟩)]
 have f0:=bN lK a0.Boxes a1 (by omega) (by omega)
 obtain⟨k0,q0⟩:∃z,z=(bF fE a0.Boxes a1).2:=⟨_,rfl⟩
 have g0:k0=a1+aA eT a0.Boxes:=q0.trans f0.1
 simp only[bd_s,←q0]
theorem zH (a0:List D.aAA)(a1:Int)(h:jO (a0.length+(a0.map D.aAA.sz).sum) (aA aM a0) a1):lZ a0 a1=some (bF bA a0 a1):=by
 obtain⟨hs,h0,h1⟩:=h
 unfold lZ
 rw[iA fF h0 h1 (by omega) (fun rec k i l hi hi0 hx hk0 hk1=>by
  have hz:=fO (f:=D.aAA.sz) hi0
  simp only[D.aAA.sz] at hz
  unfold aM at hk1
  obtain⟨k0,q0⟩:∃z,z=IntKind.i64.wrap (k+1):=⟨_,rfl⟩
  have g0:k0=k+1:=q0.trans (aL (by omega) (by omega))
  obtain⟨k1,q1⟩:∃z,z=IntKind.i64.wrap (k0+1):=⟨_,rfl⟩
  have g1:k1=k0+1:=q1.trans (aL (by omega) (by omega))
  have p2:jO (a0[i].Data.length) (aA fT a0[i].Data) k1:=⟨by omega,by omega,by omega⟩
  have f2:=bN Ld a0[i].Data k1 (by omega) (by omega)
  obtain⟨k2,q2⟩:∃z,z=(bF mkU a0[i].Data k1).2:=⟨_,rfl⟩
  have g2:k2=k1+aA fT a0[i].Data:=q2.trans f2.1
  obtain⟨k3,q3⟩:∃z,z=IntKind.i64.wrap (k2+1):=⟨_,rfl⟩
  have g3:k3=k2+1:=q3.trans (aL (by omega) (by omega))
  simp only[bJ hi,cond_true,aF hi,hx,mF hi,aF (show i<(l.set i _).length by simpa using hi),List.set_set,List.getElem_set_self,bd_s,gY,dV,gd_T,bA,←q0,←q1,←q2,←q3,aB p2]) (fun rec k l=>by simp only[bM,cond_false])]
 rfl
theorem aB1 (a0:D.aAJ)(a1:Int)(h:jO (a0.sz) (aX a0) a1):Cj a0 a1=some (gT a0 a1):=by
 obtain⟨hs,h0,h1⟩:=h
 unfold aX at h1
 simp only[D.aAJ.sz,D.aAD.sz] at hs
 unfold Cj gT
 rw[aB (show jO _ _ _ from⟨by omega,by omega,by omega⟩)]
 have f0:=bN fD a0.Log a1 (by omega) (by omega)
 obtain⟨k0,q0⟩:∃z,z=(bF aS a0.Log a1).2:=⟨_,rfl⟩
 have g0:k0=a1+aA aG a0.Log:=q0.trans f0.1
 simp only[bd_s,←q0]
 rw[aB (show jO _ _ _ from⟨by simp only[D.aAD.sz];omega,by omega,by unfold aN;omega⟩)]
 simp only[bd_s,dQ]
 have f1:=bN lK a0.Boxes.Boxes k0 (by omega) (by omega)
 obtain⟨k1,q1⟩:∃z,z=(bF fE a0.Boxes.Boxes k0).2:=⟨_,rfl⟩
 have g1:k1=k0+aA eT a0.Boxes.Boxes:=q1.trans f1.1
 simp only[←q1]
 rw[aB (show jO _ _ _ from⟨by omega,by omega,by omega⟩)]
 have f2:=bN fF a0.History k1 (by omega) (by omega)
 obtain⟨k2,q2⟩:∃z,z=(bF bA a0.History k1).2:=⟨_,rfl⟩
 have g2:k2=k1+aA aM a0.History:=q2.trans f2.1
 simp only[bd_s,←q2]
theorem Ei (a0:List D.aAI)(a1:Int)(h:jO (a0.length) (aA aZ a0) a1):nZ a0 a1=some (bF bY a0 a1):=by
 obtain⟨hs,h0,h1⟩:=h
 unfold nZ
 rw[iA jH h0 h1 (by omega) (fun rec k i l hi hi0 hx hk0 hk1=>by
  unfold aZ at hk1
  obtain⟨k0,q0⟩:∃z,z=IntKind.i64.wrap (k+1):=⟨_,rfl⟩
  have g0:k0=k+1:=q0.trans (aL (by omega) (by omega))
  obtain⟨k1,q1⟩:∃z,z=IntKind.i64.wrap (k0+1):=⟨_,rfl⟩
  have g1:k1=k0+1:=q1.trans (aL (by omega) (by omega))
  obtain⟨k2,q2⟩:∃z,z=IntKind.i64.wrap (k1+1):=⟨_,rfl⟩
  have g2:k2=k1+1:=q2.trans (aL (by omega) (by omega))
  obtain⟨k3,q3⟩:∃z,z=IntKind.i64.wrap (k2+1):=⟨_,rfl⟩
  have g3:k3=k2+1:=q3.trans (aL (by omega) (by omega))
  simp only[bJ hi,cond_true,aF hi,hx,mF hi,aF (show i<(l.set i _).length by simpa using hi),List.set_set,List.getElem_set_self,bd_s,gY,dV,gd_T,bY,←q0,←q1,←q2,←q3]) (fun rec k l=>by simp only[bM,cond_false])]
 rfl
theorem Qi (a0:List D.aAF)(a1:Int)(h:jO (a0.length+(a0.map D.aAF.sz).sum) (aA aO a0) a1):sZ a0 a1=some (bF dM a0 a1):=by
 obtain⟨hs,h0,h1⟩:=h
 unfold sZ
 rw[iA mD h0 h1 (by omega) (fun rec k i l hi hi0 hx hk0 hk1=>by
  have hz:=fO (f:=D.aAF.sz) hi0
  simp only[D.aAF.sz] at hz
  unfold aO at hk1
  obtain⟨k0,q0⟩:∃z,z=IntKind.i64.wrap (k+1):=⟨_,rfl⟩
  have g0:k0=k+1:=q0.trans (aL (by omega) (by omega))
  obtain⟨k1,q1⟩:∃z,z=IntKind.i64.wrap (k0+1):=⟨_,rfl⟩
  have g1:k1=k0+1:=q1.trans (aL (by omega) (by omega))
  have p2:jO (a0[i].Credentials.length) (aA aZ a0[i].Credentials) k1:=⟨by omega,by omega,by omega⟩
  have f2:=bN jH a0[i].Credentials k1 (by omega) (by omega)
  obtain⟨k2,q2⟩:∃z,z=(bF bY a0[i].Credentials k1).2:=⟨_,rfl⟩
  have g2:k2=k1+aA aZ a0[i].Credentials:=q2.trans f2.1
  simp only[bJ hi,cond_true,aF hi,hx,mF hi,aF (show i<(l.set i _).length by simpa using hi),List.set_set,List.getElem_set_self,bd_s,gY,dV,gd_T,dM,←q0,←q1,←q2,aB p2]) (fun rec k l=>by simp only[bM,cond_false])]
 rfl
theorem Ik (a0:List D.aAK)(a1:Int)(h:jO (a0.length) (aA aU a0) a1):pM a0 a1=some (bF dF a0 a1):=by
 obtain⟨hs,h0,h1⟩:=h
 unfold pM
 rw[iA kJ h0 h1 (by omega) (fun rec k i l hi hi0 hx hk0 hk1=>by
  unfold aU at hk1
  obtain⟨k0,q0⟩:∃z,z=IntKind.i64.wrap (k+1):=⟨_,rfl⟩
  have g0:k0=k+1:=q0.trans (aL (by omega) (by omega))
  obtain⟨k1,q1⟩:∃z,z=IntKind.i64.wrap (k0+1):=⟨_,rfl⟩
  have g1:k1=k0+1:=q1.trans (aL (by omega) (by omega))
  obtain⟨k2,q2⟩:∃z,z=IntKind.i64.wrap (k1+1):=⟨_,rfl⟩
  have g2:k2=k1+1:=q2.trans (aL (by omega) (by omega))
  simp only[bJ hi,cond_true,aF hi,hx,mF hi,aF (show i<(l.set i _).length by simpa using hi),List.set_set,List.getElem_set_self,bd_s,gY,dV,gd_T,dF,←q0,←q1,←q2]) (fun rec k l=>by simp only[bM,cond_false])]
 rfl
theorem aG7 (a0:List Int)(a1:Int)(h:jO (a0.length) (aA fT a0) a1):Hr a0 a1=some (bF mkI a0 a1):=by
 obtain⟨hs,h0,h1⟩:=h
 unfold Hr
 rw[iA aLo h0 h1 (by omega) (fun rec k i l hi hi0 hx hk0 hk1=>by
  simp only[bJ hi,cond_true,aF hi,bd_s,gY,dV,gd_T,mkI]) (fun rec k l=>by simp only[bM,cond_false])]
 rfl
theorem aB2 (a0:List D.Site)(a1:Int)(h:jO (a0.length+(a0.map D.Site.sz).sum) (aA cB a0) a1):Cm a0 a1=some (bF gG a0 a1):=by
 obtain⟨hs,h0,h1⟩:=h
 unfold Cm
 rw[iA wE h0 h1 (by omega) (fun rec k i l hi hi0 hx hk0 hk1=>by
  have hz:=fO (f:=D.Site.sz) hi0
  simp only[D.aAG.sz,D.Site.sz] at hz
  unfold cB at hk1
  have t0:gI k=some (Ck k):=aGb (by omega) (by omega)
  obtain⟨k0,q0⟩:∃z,z=IntKind.i64.wrap (k+1):=⟨_,rfl⟩
  have g0:k0=k+1:=q0.trans (aL (by omega) (by omega))
  have p1:jO (a0[i].Accounts.length+(a0[i].Accounts.map D.aAF.sz).sum) (aA aO a0[i].Accounts) k0:=⟨by omega,by omega,by omega⟩
  have f1:=bN mD a0[i].Accounts k0 (by omega) (by omega)
  obtain⟨k1,q1⟩:∃z,z=(bF dM a0[i].Accounts k0).2:=⟨_,rfl⟩
  have g1:k1=k0+aA aO a0[i].Accounts:=q1.trans f1.1
  obtain⟨k2,q2⟩:∃z,z=IntKind.i64.wrap (k1+1):=⟨_,rfl⟩
  have g2:k2=k1+1:=q2.trans (aL (by omega) (by omega))
  obtain⟨k3,q3⟩:∃z,z=IntKind.i64.wrap (k2+1):=⟨_,rfl⟩
  have g3:k3=k2+1:=q3.trans (aL (by omega) (by omega))
  have p4:jO (a0[i].Book.Open.length) (aA aU a0[i].Book.Open) k3:=⟨by omega,by omega,by omega⟩
  have f4:=bN kJ a0[i].Book.Open k3 (by omega) (by omega)
  obtain⟨k4,q4⟩:∃z,z=(bF dF a0[i].Book.Open k3).2:=⟨_,rfl⟩
  have g4:k4=k3+aA aU a0[i].Book.Open:=q4.trans f4.1
  have p5:jO (a0[i].Logins.length) (aA fT a0[i].Logins) k4:=⟨by omega,by omega,by omega⟩
  have f5:=bN aLo a0[i].Logins k4 (by omega) (by omega)
  obtain⟨k5,q5⟩:∃z,z=(bF mkI a0[i].Logins k4).2:=⟨_,rfl⟩
  have g5:k5=k4+aA fT a0[i].Logins:=q5.trans f5.1
  simp only[bJ hi,cond_true,aF hi,hx,mF hi,aF (show i<(l.set i _).length by simpa using hi),List.set_set,List.getElem_set_self,bd_s,gY,dV,gd_T,gG,←q0,←q1,←q2,←q3,←q4,←q5,t0,aB p1,aB p4,aB p5]) (fun rec k l=>by simp only[bM,cond_false])]
 rfl
theorem Vw (a0:List D.aAL)(a1:Int)(h:jO (a0.length) (aA bO a0) a1):wF a0 a1=some (bF eF a0 a1):=by
 obtain⟨hs,h0,h1⟩:=h
 unfold wF
 rw[iA oC h0 h1 (by omega) (fun rec k i l hi hi0 hx hk0 hk1=>by
  unfold bO at hk1
  obtain⟨k0,q0⟩:∃z,z=IntKind.i64.wrap (k+1):=⟨_,rfl⟩
  have g0:k0=k+1:=q0.trans (aL (by omega) (by omega))
  obtain⟨k1,q1⟩:∃z,z=IntKind.i64.wrap (k0+1):=⟨_,rfl⟩
  have g1:k1=k0+1:=q1.trans (aL (by omega) (by omega))
  obtain⟨k2,q2⟩:∃z,z=IntKind.i64.wrap (k1+1):=⟨_,rfl⟩
  have g2:k2=k1+1:=q2.trans (aL (by omega) (by omega))
  obtain⟨k3,q3⟩:∃z,z=IntKind.i64.wrap (k2+1):=⟨_,rfl⟩
  have g3:k3=k2+1:=q3.trans (aL (by omega) (by omega))
  obtain⟨k4,q4⟩:∃z,z=IntKind.i64.wrap (k3+1):=⟨_,rfl⟩
  have g4:k4=k3+1:=q4.trans (aL (by omega) (by omega))
  simp only[bJ hi,cond_true,aF hi,hx,mF hi,aF (show i<(l.set i _).length by simpa using hi),List.set_set,List.getElem_set_self,bd_s,gY,dV,gd_T,eF,←q0,←q1,←q2,←q3,←q4]) (fun rec k l=>by simp only[bM,cond_false])]
 rfl
theorem Ej (a0:List D.aAE)(a1:Int)(h:jO (a0.length+(a0.map D.aAE.sz).sum) (aA aR a0) a1):oD a0 a1=some (bF bK a0 a1):=by
 obtain⟨hs,h0,h1⟩:=h
 unfold oD
 rw[iA jI h0 h1 (by omega) (fun rec k i l hi hi0 hx hk0 hk1=>by
  have hz:=fO (f:=D.aAE.sz) hi0
  simp only[D.aAL.sz,D.aAE.sz,D.aAM.sz] at hz
  unfold aR at hk1
  obtain⟨k0,q0⟩:∃z,z=IntKind.i64.wrap (k+1):=⟨_,rfl⟩
  have g0:k0=k+1:=q0.trans (aL (by omega) (by omega))
  obtain⟨k1,q1⟩:∃z,z=IntKind.i64.wrap (k0+1):=⟨_,rfl⟩
  have g1:k1=k0+1:=q1.trans (aL (by omega) (by omega))
  obtain⟨k2,q2⟩:∃z,z=IntKind.i64.wrap (k1+1):=⟨_,rfl⟩
  have g2:k2=k1+1:=q2.trans (aL (by omega) (by omega))
  obtain⟨k3,q3⟩:∃z,z=IntKind.i64.wrap (k2+1):=⟨_,rfl⟩
  have g3:k3=k2+1:=q3.trans (aL (by omega) (by omega))
  obtain⟨k4,q4⟩:∃z,z=IntKind.i64.wrap (k3+1):=⟨_,rfl⟩
  have g4:k4=k3+1:=q4.trans (aL (by omega) (by omega))
  have p5:jO (a0[i].Saved.length) (aA bO a0[i].Saved) k4:=⟨by omega,by omega,by omega⟩
  have f5:=bN oC a0[i].Saved k4 (by omega) (by omega)
  obtain⟨k5,q5⟩:∃z,z=(bF eF a0[i].Saved k4).2:=⟨_,rfl⟩
  have g5:k5=k4+aA bO a0[i].Saved:=q5.trans f5.1
  obtain⟨k6,q6⟩:∃z,z=IntKind.i64.wrap (k5+1):=⟨_,rfl⟩
  have g6:k6=k5+1:=q6.trans (aL (by omega) (by omega))
  simp only[bJ hi,cond_true,aF hi,hx,mF hi,aF (show i<(l.set i _).length by simpa using hi),List.set_set,List.getElem_set_self,bd_s,gY,dV,gd_T,bK,←q0,←q1,←q2,←q3,←q4,←q5,←q6,aB p5]) (fun rec k l=>by simp only[bM,cond_false])]
 rfl
theorem Vx (a0:List D.aAP)(a1:Int)(h:jO (a0.length) (aA bU a0) a1):wG a0 a1=some (bF dX a0 a1):=by
 obtain⟨hs,h0,h1⟩:=h
 unfold wG
 rw[iA lL h0 h1 (by omega) (fun rec k i l hi hi0 hx hk0 hk1=>by
  unfold bU at hk1
  obtain⟨k0,q0⟩:∃z,z=IntKind.i64.wrap (k+1):=⟨_,rfl⟩
  have g0:k0=k+1:=q0.trans (aL (by omega) (by omega))
  obtain⟨k1,q1⟩:∃z,z=IntKind.i64.wrap (k0+1):=⟨_,rfl⟩
  have g1:k1=k0+1:=q1.trans (aL (by omega) (by omega))
  obtain⟨k2,q2⟩:∃z,z=IntKind.i64.wrap (k1+1):=⟨_,rfl⟩
  have g2:k2=k1+1:=q2.trans (aL (by omega) (by omega))
  obtain⟨k3,q3⟩:∃z,z=IntKind.i64.wrap (k2+1):=⟨_,rfl⟩
  have g3:k3=k2+1:=q3.trans (aL (by omega) (by omega))
  simp only[bJ hi,cond_true,aF hi,hx,mF hi,aF (show i<(l.set i _).length by simpa using hi),List.set_set,List.getElem_set_self,bd_s,gY,dV,gd_T,dX,←q0,←q1,←q2,←q3]) (fun rec k l=>by simp only[bM,cond_false])]
 rfl
theorem Vy (a0:D.aAO)(a1:Int)(h:jO (a0.sz) (bB a0) a1):wH a0 a1=some (fG a0 a1):=by
 obtain⟨hs,h0,h1⟩:=h
 unfold bB at h1
 simp only[D.aAO.sz] at hs
 unfold wH fG
 rw[aB (show jO _ _ _ from⟨by omega,by omega,by omega⟩)]
 have f0:=bN lL a0.Notices a1 (by omega) (by omega)
 obtain⟨k0,q0⟩:∃z,z=(bF dX a0.Notices a1).2:=⟨_,rfl⟩
 have g0:k0=a1+aA bU a0.Notices:=q0.trans f0.1
 simp only[bd_s,←q0]
theorem aB3 (a0:D.World)(a1:Int)(h:jO (a0.sz) (eQ a0) a1):Cn a0 a1=some (dK a0 a1):=by
 obtain⟨hs,h0,h1⟩:=h
 unfold eQ at h1
 simp only[D.aAJ.sz,D.aAD.sz,D.aAO.sz,D.aAQ.sz,D.World.sz] at hs
 unfold Cn dK
 rw[aB (show jO _ _ _ from⟨by omega,by omega,by omega⟩)]
 have f0:=bN nY a0.Devices a1 (by omega) (by omega)
 obtain⟨k0,q0⟩:∃z,z=(bF bW a0.Devices a1).2:=⟨_,rfl⟩
 have g0:k0=a1+aA aP a0.Devices:=q0.trans f0.1
 simp only[bd_s,←q0]
 rw[aB (show jO _ _ _ from⟨by omega,by omega,by omega⟩)]
 have f1:=bN aLp a0.Stolen k0 (by omega) (by omega)
 obtain⟨k1,q1⟩:∃z,z=(bF mkB a0.Stolen k0).2:=⟨_,rfl⟩
 have g1:k1=k0+aA fT a0.Stolen:=q1.trans f1.1
 simp only[bd_s,←q1]
 rw[aB (show jO _ _ _ from⟨by simp only[D.aAJ.sz,D.aAD.sz];omega,by omega,by unfold aX;omega⟩)]
 simp only[bd_s,gT]
 have f2:=bN fD a0.aAJ.Log k1 (by omega) (by omega)
 obtain⟨k2,q2⟩:∃z,z=(bF aS a0.aAJ.Log k1).2:=⟨_,rfl⟩
 have g2:k2=k1+aA aG a0.aAJ.Log:=q2.trans f2.1
 simp only[←q2]
 have f3:=bN lK a0.aAJ.Boxes.Boxes k2 (by omega) (by omega)
 obtain⟨k3,q3⟩:∃z,z=(bF fE a0.aAJ.Boxes.Boxes k2).2:=⟨_,rfl⟩
 have g3:k3=k2+aA eT a0.aAJ.Boxes.Boxes:=q3.trans f3.1
 simp only[←q3]
 have f4:=bN fF a0.aAJ.History k3 (by omega) (by omega)
 obtain⟨k4,q4⟩:∃z,z=(bF bA a0.aAJ.History k3).2:=⟨_,rfl⟩
 have g4:k4=k3+aA aM a0.aAJ.History:=q4.trans f4.1
 simp only[←q4]
 rw[aB (show jO _ _ _ from⟨by omega,by omega,by omega⟩)]
 have f5:=bN wE a0.Sites k4 (by omega) (by omega)
 obtain⟨k5,q5⟩:∃z,z=(bF gG a0.Sites k4).2:=⟨_,rfl⟩
 have g5:k5=k4+aA cB a0.Sites:=q5.trans f5.1
 simp only[bd_s,←q5]
 rw[aB (show jO _ _ _ from⟨by omega,by omega,by omega⟩)]
 have f6:=bN jI a0.Hosts k5 (by omega) (by omega)
 obtain⟨k6,q6⟩:∃z,z=(bF bK a0.Hosts k5).2:=⟨_,rfl⟩
 have g6:k6=k5+aA aR a0.Hosts:=q6.trans f6.1
 simp only[bd_s,←q6]
 rw[aB (show jO _ _ _ from⟨by simp only[D.aAO.sz];omega,by omega,by unfold bB;omega⟩)]
 simp only[bd_s,fG]
theorem Nq (a0:List D.aAB)(a1:Int)(h:bL (bF aS) (aA aG) a0 a1):rO a0 a1=some (a1+((aA aG a0:Nat):Int)):=by
 have hlen:=iZ aLx a0
 have h1:=h.1
 have h2:=h.2.1
 unfold rO
 rw[iB fD h (by omega) (fun rec k i hi hP=>by
  clear h hlen h1 h2
  obtain⟨p1,p2,x,p3,p4⟩:=hP
  rw[←p4] at p2
  unfold aG at p2
  have b0:0≤k:=by omega
  have d0:k+1≤4611686018427387904:=by omega
  have b1:0≤k+1:=by omega
  have d1:k+1+1≤4611686018427387904:=by omega
  have b2:0≤k+1+1:=by omega
  have d2:k+1+1+1≤4611686018427387904:=by omega
  have b3:0≤k+1+1+1:=by omega
  have d3:k+1+1+1+1≤4611686018427387904:=by omega
  have b4:0≤k+1+1+1+1:=by omega
  have d4:k+1+1+1+1+1≤4611686018427387904:=by omega
  have b5:0≤k+1+1+1+1+1:=by omega
  have d5:k+1+1+1+1+1+1≤4611686018427387904:=by omega
  have nn:k+1+1+1+1+1+1=k+((aG x:Nat):Int):=by unfold aG;omega
  have e0:a0[i].Index=k:=by rw[p3];simp only[aS]
  have w0:IntKind.i64.wrap (k+1)=k+1:=aL b0 d0
  have e1:a0[i].Kind=(k+1):=by rw[p3];simp only[aS,w0]
  have w1:IntKind.i64.wrap (k+1+1)=k+1+1:=aL b1 d1
  have e2:a0[i].Device=(k+1+1):=by rw[p3];simp only[aS,w0,w1]
  have w2:IntKind.i64.wrap (k+1+1+1)=k+1+1+1:=aL b2 d2
  have e3:a0[i].By=(k+1+1+1):=by rw[p3];simp only[aS,w0,w1,w2]
  have w3:IntKind.i64.wrap (k+1+1+1+1)=k+1+1+1+1:=aL b3 d3
  have e4:a0[i].Previous=(k+1+1+1+1):=by rw[p3];simp only[aS,w0,w1,w2,w3]
  have w4:IntKind.i64.wrap (k+1+1+1+1+1)=k+1+1+1+1+1:=aL b4 d4
  have e5:a0[i].Signature=(k+1+1+1+1+1):=by rw[p3];simp only[aS,w0,w1,w2,w3,w4]
  have w5:IntKind.i64.wrap (k+1+1+1+1+1+1)=k+1+1+1+1+1+1:=aL b5 d5
  simp only[bJ hi,cond_true,aF hi,e0,w0,e1,w1,e2,w2,e3,w3,e4,w4,e5,w5,bne_self_eq_false,beq_self_eq_true,Bool.not_true,cond_false,bd_s,dV,gd_T]
  rw[←p4,←nn]) (fun rec k=>by simp only[bM,cond_false])]
 rfl
theorem M3 (a0:List D.Entry)(a1:Int)(h:bL (bF gF) (aA dI) a0 a1):yT a0 a1=some (a1+((aA dI a0:Nat):Int)):=by
 have hlen:=iZ aV3 a0
 have h1:=h.1
 have h2:=h.2.1
 unfold yT
 rw[iB rM h (by omega) (fun rec k i hi hP=>by
  clear h hlen h1 h2
  obtain⟨p1,p2,x,p3,p4⟩:=hP
  rw[←p4] at p2
  unfold dI at p2
  have b0:0≤k:=by omega
  have d0:k+1≤4611686018427387904:=by omega
  have b1:0≤k+1:=by omega
  have d1:k+1+1≤4611686018427387904:=by omega
  have b2:0≤k+1+1:=by omega
  have d2:k+1+1+1≤4611686018427387904:=by omega
  have b3:0≤k+1+1+1:=by omega
  have d3:k+1+1+1+1≤4611686018427387904:=by omega
  have nn:k+1+1+1+1=k+((dI x:Nat):Int):=by unfold dI;omega
  have e0:a0[i].Site=k:=by rw[p3];simp only[gF]
  have w0:IntKind.i64.wrap (k+1)=k+1:=aL b0 d0
  have e1:a0[i].Handle=(k+1):=by rw[p3];simp only[gF,w0]
  have w1:IntKind.i64.wrap (k+1+1)=k+1+1:=aL b1 d1
  have e2:a0[i].Version=(k+1+1):=by rw[p3];simp only[gF,w0,w1]
  have w2:IntKind.i64.wrap (k+1+1+1)=k+1+1+1:=aL b2 d2
  have e3:a0[i].Deleted=((k+1+1+1).tmod 3==0):=by rw[p3];simp only[gF,w0,w1,w2]
  have w3:IntKind.i64.wrap (k+1+1+1+1)=k+1+1+1+1:=aL b3 d3
  simp only[bJ hi,cond_true,aF hi,e0,w0,e1,w1,e2,w2,e3,w3,bne_self_eq_false,beq_self_eq_true,Bool.not_true,cond_false,bd_s,dV,gd_T]
  rw[←p4,←nn]) (fun rec k=>by simp only[bM,cond_false])]
 rfl
theorem Vz (a0:List D.Device)(a1:Int)(h:bL (bF bW) (aA aP) a0 a1):wI a0 a1=some (a1+((aA aP a0:Nat):Int)):=by
 have hlen:=iZ aTf a0
 have h1:=h.1
 have h2:=h.2.1
 unfold wI
 rw[iB nY h (by omega) (fun rec k i hi hP=>by
  clear h hlen h1 h2
  obtain⟨p1,p2,x,p3,p4⟩:=hP
  rw[←p4] at p2
  unfold aP at p2
  have b0:0≤k:=by omega
  have d0:k+1≤4611686018427387904:=by omega
  have b1:0≤k+1:=by omega
  have d1:k+1+1≤4611686018427387904:=by omega
  have b2:0≤k+1+1:=by omega
  have d2:k+1+1+1≤4611686018427387904:=by omega
  have b3:0≤k+1+1+1:=by omega
  have d3:k+1+1+1+1≤4611686018427387904:=by omega
  have b4:0≤k+1+1+1+1:=by omega
  have d4:k+1+1+1+1+((aA aG x.Log:Nat):Int)≤4611686018427387904:=by omega
  have t4:decide (k+1+1+1+1+((aA aG x.Log:Nat):Int)<0)=false:=decide_eq_false (by omega)
  have b5:0≤k+1+1+1+1+((aA aG x.Log:Nat):Int):=by omega
  have d5:k+1+1+1+1+((aA aG x.Log:Nat):Int)+1≤4611686018427387904:=by omega
  have b6:0≤k+1+1+1+1+((aA aG x.Log:Nat):Int)+1:=by omega
  have d6:k+1+1+1+1+((aA aG x.Log:Nat):Int)+1+1≤4611686018427387904:=by omega
  have b7:0≤k+1+1+1+1+((aA aG x.Log:Nat):Int)+1+1:=by omega
  have d7:k+1+1+1+1+((aA aG x.Log:Nat):Int)+1+1+1≤4611686018427387904:=by omega
  have b8:0≤k+1+1+1+1+((aA aG x.Log:Nat):Int)+1+1+1:=by omega
  have d8:k+1+1+1+1+((aA aG x.Log:Nat):Int)+1+1+1+((aA dI x.aAC.Entries:Nat):Int)≤4611686018427387904:=by omega
  have t8:decide (k+1+1+1+1+((aA aG x.Log:Nat):Int)+1+1+1+((aA dI x.aAC.Entries:Nat):Int)<0)=false:=decide_eq_false (by omega)
  have nn:k+1+1+1+1+((aA aG x.Log:Nat):Int)+1+1+1+((aA dI x.aAC.Entries:Nat):Int)=k+((aP x:Nat):Int):=by unfold aP;omega
  have e0:a0[i].Store.Vendor=k:=by rw[p3];simp only[bW]
  have w0:IntKind.i64.wrap (k+1)=k+1:=aL b0 d0
  have e1:a0[i].Store.Serial=(k+1):=by rw[p3];simp only[bW,w0]
  have w1:IntKind.i64.wrap (k+1+1)=k+1+1:=aL b1 d1
  have e2:a0[i].Store.Seed=(k+1+1):=by rw[p3];simp only[bW,w0,w1]
  have w2:IntKind.i64.wrap (k+1+1+1)=k+1+1+1:=aL b2 d2
  have e3:a0[i].Store.Counter=(k+1+1+1):=by rw[p3];simp only[bW,w0,w1,w2]
  have w3:IntKind.i64.wrap (k+1+1+1+1)=k+1+1+1+1:=aL b3 d3
  have f4:=bN fD x.Log (k+1+1+1+1) b4 d4
  have e4:a0[i].Log=(bF aS x.Log (k+1+1+1+1)).1:=by rw[p3];simp only[bW,w0,w1,w2,w3]
  have m4:=f4.1
  have c4:aA aG a0[i].Log=aA aG x.Log:=by rw[e4];exact f4.2
  have h4:bL (bF aS) (aA aG) a0[i].Log (k+1+1+1+1):=fC b4 d4 e4 c4
  have e5:a0[i].Key=(k+1+1+1+1+((aA aG x.Log:Nat):Int)):=by rw[p3];simp only[bW,w0,w1,w2,w3,m4]
  have w5:IntKind.i64.wrap (k+1+1+1+1+((aA aG x.Log:Nat):Int)+1)=k+1+1+1+1+((aA aG x.Log:Nat):Int)+1:=aL b5 d5
  have e6:a0[i].Epoch=(k+1+1+1+1+((aA aG x.Log:Nat):Int)+1):=by rw[p3];simp only[bW,w0,w1,w2,w3,m4,w5]
  have w6:IntKind.i64.wrap (k+1+1+1+1+((aA aG x.Log:Nat):Int)+1+1)=k+1+1+1+1+((aA aG x.Log:Nat):Int)+1+1:=aL b6 d6
  have e7:a0[i].Version=(k+1+1+1+1+((aA aG x.Log:Nat):Int)+1+1):=by rw[p3];simp only[bW,w0,w1,w2,w3,m4,w5,w6]
  have w7:IntKind.i64.wrap (k+1+1+1+1+((aA aG x.Log:Nat):Int)+1+1+1)=k+1+1+1+1+((aA aG x.Log:Nat):Int)+1+1+1:=aL b7 d7
  have f8:=bN rM x.aAC.Entries (k+1+1+1+1+((aA aG x.Log:Nat):Int)+1+1+1) b8 d8
  have e8:a0[i].aAC.Entries=(bF gF x.aAC.Entries (k+1+1+1+1+((aA aG x.Log:Nat):Int)+1+1+1)).1:=by rw[p3];simp only[bW,w0,w1,w2,w3,m4,w5,w6,w7]
  have m8:=f8.1
  have c8:aA dI a0[i].aAC.Entries=aA dI x.aAC.Entries:=by rw[e8];exact f8.2
  have h8:bL (bF gF) (aA dI) a0[i].aAC.Entries (k+1+1+1+1+((aA aG x.Log:Nat):Int)+1+1+1):=fC b8 d8 e8 c8
  simp only[bJ hi,cond_true,aF hi,e0,w0,e1,w1,e2,w2,e3,w3,aB h4,c4,t4,e5,w5,e6,w6,e7,w7,aB h8,c8,t8,bne_self_eq_false,beq_self_eq_true,Bool.not_true,cond_false,bd_s,dV,gd_T]
  rw[←p4,←nn]) (fun rec k=>by simp only[bM,cond_false])]
 rfl
theorem aB4 (a0:List Bool)(a1:Int)(h:bL (bF mkB) (aA fT) a0 a1):Co a0 a1=some (a1+((aA fT a0:Nat):Int)):=by
 have hlen:=iZ (c:=fT) (fun _=>Nat.le_refl _) a0
 have h1:=h.1
 have h2:=h.2.1
 unfold Co
 rw[iB aLp h (by omega) (fun rec k i hi hP=>by
  obtain⟨p1,p2,x,p3,_⟩:=hP
  have p2:k+1≤4611686018427387904:=by simpa[fT] using p2
  have e:a0[i]=(k.tmod 3==0):=p3
  simp only[bJ hi,cond_true,aF hi,e,bne_self_eq_false,beq_self_eq_true,Bool.not_true,cond_false,bd_s,aL p1 p2,aB (show(3:Int)≠(0:Int) by omega)];rfl) (fun rec k=>by simp only[bM,cond_false])]
 rfl
theorem aB5 (a0:List Int)(a1:Int)(h:bL (bF mkU) (aA fT) a0 a1):Cq a0 a1=some (a1+((aA fT a0:Nat):Int)):=by
 have hlen:=iZ (c:=fT) (fun _=>Nat.le_refl _) a0
 have h1:=h.1
 have h2:=h.2.1
 unfold Cq
 rw[iB Ld h (by omega) (fun rec k i hi hP=>by
  obtain⟨p1,p2,x,p3,_⟩:=hP
  have p2:k+1≤4611686018427387904:=by simpa[fT] using p2
  have e:a0[i]=IntKind.u8.wrap k:=p3
  simp only[bJ hi,cond_true,aF hi,e,bne_self_eq_false,beq_self_eq_true,Bool.not_true,cond_false,bd_s,aL p1 p2,aB (show(3:Int)≠(0:Int) by omega)];rfl) (fun rec k=>by simp only[bM,cond_false])]
 rfl
theorem aG8 (a0:List D.Box)(a1:Int)(h:bL (bF fE) (aA eT) a0 a1):Ht a0 a1=some (a1+((aA eT a0:Nat):Int)):=by
 have hlen:=iZ bA3 a0
 have h1:=h.1
 have h2:=h.2.1
 unfold Ht
 rw[iB lK h (by omega) (fun rec k i hi hP=>by
  clear h hlen h1 h2
  obtain⟨p1,p2,x,p3,p4⟩:=hP
  rw[←p4] at p2
  unfold eT at p2
  have b0:0≤k:=by omega
  have d0:k+1≤4611686018427387904:=by omega
  have b1:0≤k+1:=by omega
  have d1:k+1+1≤4611686018427387904:=by omega
  have b2:0≤k+1+1:=by omega
  have d2:k+1+1+((aA fT x.Data:Nat):Int)≤4611686018427387904:=by omega
  have t2:decide (k+1+1+((aA fT x.Data:Nat):Int)<0)=false:=decide_eq_false (by omega)
  have b3:0≤k+1+1+((aA fT x.Data:Nat):Int):=by omega
  have d3:k+1+1+((aA fT x.Data:Nat):Int)+1≤4611686018427387904:=by omega
  have nn:k+1+1+((aA fT x.Data:Nat):Int)+1=k+((eT x:Nat):Int):=by unfold eT;omega
  have e0:a0[i].To=k:=by rw[p3];simp only[fE]
  have w0:IntKind.i64.wrap (k+1)=k+1:=aL b0 d0
  have e1:a0[i].Ephemeral=(k+1):=by rw[p3];simp only[fE,w0]
  have w1:IntKind.i64.wrap (k+1+1)=k+1+1:=aL b1 d1
  have f2:=bN Ld x.Data (k+1+1) b2 d2
  have e2:a0[i].Data=(bF mkU x.Data (k+1+1)).1:=by rw[p3];simp only[fE,w0,w1]
  have m2:=f2.1
  have c2:aA fT a0[i].Data=aA fT x.Data:=by rw[e2];exact f2.2
  have h2:bL (bF mkU) (aA fT) a0[i].Data (k+1+1):=fC b2 d2 e2 c2
  have e3:a0[i].MAC=(k+1+1+((aA fT x.Data:Nat):Int)):=by rw[p3];simp only[fE,w0,w1,m2]
  have w3:IntKind.i64.wrap (k+1+1+((aA fT x.Data:Nat):Int)+1)=k+1+1+((aA fT x.Data:Nat):Int)+1:=aL b3 d3
  simp only[bJ hi,cond_true,aF hi,e0,w0,e1,w1,aB h2,c2,t2,e3,w3,bne_self_eq_false,beq_self_eq_true,Bool.not_true,cond_false,bd_s,dV,gd_T]
  rw[←p4,←nn]) (fun rec k=>by simp only[bM,cond_false])]
 rfl
theorem Im (a0:D.aAD)(k:Int)(h:bL dQ aN a0 k):pO a0 k=some (k+((aN a0:Nat):Int)):=by
 obtain⟨p1,p2,x,p3,p4⟩:=h
 rw[←p4] at p2
 unfold aN at p2
 have b0:0≤k:=by omega
 have d0:k+(((aA eT) x.Boxes:Nat):Int)≤4611686018427387904:=by omega
 have t0:decide (k+(((aA eT) x.Boxes:Nat):Int)<0)=false:=decide_eq_false (by omega)
 have nn:k+(((aA eT) x.Boxes:Nat):Int)=k+((aN x:Nat):Int):=by simp only[aN]<;>omega
 have f0:=(bN lK) x.Boxes k b0 d0
 have e0:a0.Boxes=((bF fE) x.Boxes k).1:=by rw[p3];simp only[dQ]
 have m0:=f0.1
 have c0:(aA eT) a0.Boxes=(aA eT) x.Boxes:=by rw[e0];exact f0.2
 have h0:bL (bF fE) (aA eT) a0.Boxes k:=fC b0 d0 e0 c0
 unfold pO
 simp only[aB h0,c0,t0,cond_false,bd_s]
 rw[←p4,←nn]
theorem zI (a0:List D.aAA)(a1:Int)(h:bL (bF bA) (aA aM) a0 a1):mE a0 a1=some (a1+((aA aM a0:Nat):Int)):=by
 have hlen:=iZ Vr a0
 have h1:=h.1
 have h2:=h.2.1
 unfold mE
 rw[iB fF h (by omega) (fun rec k i hi hP=>by
  clear h hlen h1 h2
  obtain⟨p1,p2,x,p3,p4⟩:=hP
  rw[←p4] at p2
  unfold aM at p2
  have b0:0≤k:=by omega
  have d0:k+1≤4611686018427387904:=by omega
  have b1:0≤k+1:=by omega
  have d1:k+1+1≤4611686018427387904:=by omega
  have b2:0≤k+1+1:=by omega
  have d2:k+1+1+((aA fT x.Data:Nat):Int)≤4611686018427387904:=by omega
  have t2:decide (k+1+1+((aA fT x.Data:Nat):Int)<0)=false:=decide_eq_false (by omega)
  have b3:0≤k+1+1+((aA fT x.Data:Nat):Int):=by omega
  have d3:k+1+1+((aA fT x.Data:Nat):Int)+1≤4611686018427387904:=by omega
  have nn:k+1+1+((aA fT x.Data:Nat):Int)+1=k+((aM x:Nat):Int):=by unfold aM;omega
  have e0:a0[i].Epoch=k:=by rw[p3];simp only[bA]
  have w0:IntKind.i64.wrap (k+1)=k+1:=aL b0 d0
  have e1:a0[i].Version=(k+1):=by rw[p3];simp only[bA,w0]
  have w1:IntKind.i64.wrap (k+1+1)=k+1+1:=aL b1 d1
  have f2:=bN Ld x.Data (k+1+1) b2 d2
  have e2:a0[i].Data=(bF mkU x.Data (k+1+1)).1:=by rw[p3];simp only[bA,w0,w1]
  have m2:=f2.1
  have c2:aA fT a0[i].Data=aA fT x.Data:=by rw[e2];exact f2.2
  have h2:bL (bF mkU) (aA fT) a0[i].Data (k+1+1):=fC b2 d2 e2 c2
  have e3:a0[i].MAC=(k+1+1+((aA fT x.Data:Nat):Int)):=by rw[p3];simp only[bA,w0,w1,m2]
  have w3:IntKind.i64.wrap (k+1+1+((aA fT x.Data:Nat):Int)+1)=k+1+1+((aA fT x.Data:Nat):Int)+1:=aL b3 d3
  simp only[bJ hi,cond_true,aF hi,e0,w0,e1,w1,aB h2,c2,t2,e3,w3,bne_self_eq_false,beq_self_eq_true,Bool.not_true,cond_false,bd_s,dV,gd_T]
  rw[←p4,←nn]) (fun rec k=>by simp only[bM,cond_false])]
 rfl
theorem aB6 (a0:D.aAJ)(k:Int)(h:bL gT aX a0 k):Cr a0 k=some (k+((aX a0:Nat):Int)):=by
 obtain⟨p1,p2,x,p3,p4⟩:=h
 rw[←p4] at p2
 unfold aX at p2
 have b0:0≤k:=by first|omega|(simp only[aN];omega)
 have d0:k+(((aA aG) x.Log:Nat):Int)≤4611686018427387904:=by first|omega|(simp only[aN];omega)
 have t0:decide (k+(((aA aG) x.Log:Nat):Int)<0)=false:=decide_eq_false (by first|omega|(simp only[aN];omega))
 have b1:0≤k+(((aA aG) x.Log:Nat):Int):=by first|omega|(simp only[aN];omega)
 have d1:k+(((aA aG) x.Log:Nat):Int)+((aN x.Boxes:Nat):Int)≤4611686018427387904:=by first|omega|(simp only[aN];omega)
 have t1:decide (k+(((aA aG) x.Log:Nat):Int)+((aN x.Boxes:Nat):Int)<0)=false:=decide_eq_false (by first|omega|(simp only[aN];omega))
 have b2:0≤k+(((aA aG) x.Log:Nat):Int)+((aN x.Boxes:Nat):Int):=by first|omega|(simp only[aN];omega)
 have d2:k+(((aA aG) x.Log:Nat):Int)+((aN x.Boxes:Nat):Int)+(((aA aM) x.History:Nat):Int)≤4611686018427387904:=by first|omega|(simp only[aN];omega)
 have t2:decide (k+(((aA aG) x.Log:Nat):Int)+((aN x.Boxes:Nat):Int)+(((aA aM) x.History:Nat):Int)<0)=false:=decide_eq_false (by first|omega|(simp only[aN];omega))
 have nn:k+(((aA aG) x.Log:Nat):Int)+((aN x.Boxes:Nat):Int)+(((aA aM) x.History:Nat):Int)=k+((aX x:Nat):Int):=by simp only[aX,aN]<;>omega
 have f0:=(bN fD) x.Log k b0 d0
 have e0:a0.Log=((bF aS) x.Log k).1:=by rw[p3];simp only[gT]
 have m0:=f0.1
 have c0:(aA aG) a0.Log=(aA aG) x.Log:=by rw[e0];exact f0.2
 have h0:bL (bF aS) (aA aG) a0.Log k:=fC b0 d0 e0 c0
 have f1:=aBp x.Boxes (k+(((aA aG) x.Log:Nat):Int)) b1 d1
 have e1:a0.Boxes=(dQ x.Boxes (k+(((aA aG) x.Log:Nat):Int))).1:=by rw[p3];simp only[gT,dQ,m0]
 have m1:=f1.1
 simp only[dQ,m0] at m1
 have c1:aN a0.Boxes=aN x.Boxes:=by rw[e1];exact f1.2
 have h1:bL dQ aN a0.Boxes (k+(((aA aG) x.Log:Nat):Int)):=fC b1 d1 e1 c1
 have f2:=(bN fF) x.History (k+(((aA aG) x.Log:Nat):Int)+((aN x.Boxes:Nat):Int)) b2 d2
 have e2:a0.History=((bF bA) x.History (k+(((aA aG) x.Log:Nat):Int)+((aN x.Boxes:Nat):Int))).1:=by rw[p3];simp only[gT,m0,m1]
 have m2:=f2.1
 have c2:(aA aM) a0.History=(aA aM) x.History:=by rw[e2];exact f2.2
 have h2:bL (bF bA) (aA aM) a0.History (k+(((aA aG) x.Log:Nat):Int)+((aN x.Boxes:Nat):Int)):=fC b2 d2 e2 c2
 unfold Cr
 simp only[aB h0,c0,t0,aB h1,c1,t1,aB h2,c2,t2,cond_false,bd_s]
 rw[←p4,←nn]
theorem Em (a0:List D.aAI)(a1:Int)(h:bL (bF bY) (aA aZ) a0 a1):oF a0 a1=some (a1+((aA aZ a0:Nat):Int)):=by
 have hlen:=iZ aBq a0
 have h1:=h.1
 have h2:=h.2.1
 unfold oF
 rw[iB jH h (by omega) (fun rec k i hi hP=>by
  clear h hlen h1 h2
  obtain⟨p1,p2,x,p3,p4⟩:=hP
  rw[←p4] at p2
  unfold aZ at p2
  have b0:0≤k:=by omega
  have d0:k+1≤4611686018427387904:=by omega
  have b1:0≤k+1:=by omega
  have d1:k+1+1≤4611686018427387904:=by omega
  have b2:0≤k+1+1:=by omega
  have d2:k+1+1+1≤4611686018427387904:=by omega
  have b3:0≤k+1+1+1:=by omega
  have d3:k+1+1+1+1≤4611686018427387904:=by omega
  have nn:k+1+1+1+1=k+((aZ x:Nat):Int):=by unfold aZ;omega
  have e0:a0[i].Handle=k:=by rw[p3];simp only[bY]
  have w0:IntKind.i64.wrap (k+1)=k+1:=aL b0 d0
  have e1:a0[i].Public=(k+1):=by rw[p3];simp only[bY,w0]
  have w1:IntKind.i64.wrap (k+1+1)=k+1+1:=aL b1 d1
  have e2:a0[i].Counter=(k+1+1):=by rw[p3];simp only[bY,w0,w1]
  have w2:IntKind.i64.wrap (k+1+1+1)=k+1+1+1:=aL b2 d2
  have e3:a0[i].Cut=((k+1+1+1).tmod 3==0):=by rw[p3];simp only[bY,w0,w1,w2]
  have w3:IntKind.i64.wrap (k+1+1+1+1)=k+1+1+1+1:=aL b3 d3
  simp only[bJ hi,cond_true,aF hi,e0,w0,e1,w1,e2,w2,e3,w3,bne_self_eq_false,beq_self_eq_true,Bool.not_true,cond_false,bd_s,dV,gd_T]
  rw[←p4,←nn]) (fun rec k=>by simp only[bM,cond_false])]
 rfl
theorem Qj (a0:List D.aAF)(a1:Int)(h:bL (bF dM) (aA aO) a0 a1):tC a0 a1=some (a1+((aA aO a0:Nat):Int)):=by
 have hlen:=iZ aPf a0
 have h1:=h.1
 have h2:=h.2.1
 unfold tC
 rw[iB mD h (by omega) (fun rec k i hi hP=>by
  clear h hlen h1 h2
  obtain⟨p1,p2,x,p3,p4⟩:=hP
  rw[←p4] at p2
  unfold aO at p2
  have b0:0≤k:=by omega
  have d0:k+1≤4611686018427387904:=by omega
  have b1:0≤k+1:=by omega
  have d1:k+1+1≤4611686018427387904:=by omega
  have b2:0≤k+1+1:=by omega
  have d2:k+1+1+((aA aZ x.Credentials:Nat):Int)≤4611686018427387904:=by omega
  have t2:decide (k+1+1+((aA aZ x.Credentials:Nat):Int)<0)=false:=decide_eq_false (by omega)
  have nn:k+1+1+((aA aZ x.Credentials:Nat):Int)=k+((aO x:Nat):Int):=by unfold aO;omega
  have e0:a0[i].Id=k:=by rw[p3];simp only[dM]
  have w0:IntKind.i64.wrap (k+1)=k+1:=aL b0 d0
  have e1:a0[i].Minimum=(k+1):=by rw[p3];simp only[dM,w0]
  have w1:IntKind.i64.wrap (k+1+1)=k+1+1:=aL b1 d1
  have f2:=bN jH x.Credentials (k+1+1) b2 d2
  have e2:a0[i].Credentials=(bF bY x.Credentials (k+1+1)).1:=by rw[p3];simp only[dM,w0,w1]
  have m2:=f2.1
  have c2:aA aZ a0[i].Credentials=aA aZ x.Credentials:=by rw[e2];exact f2.2
  have h2:bL (bF bY) (aA aZ) a0[i].Credentials (k+1+1):=fC b2 d2 e2 c2
  simp only[bJ hi,cond_true,aF hi,e0,w0,e1,w1,aB h2,c2,t2,bne_self_eq_false,beq_self_eq_true,Bool.not_true,cond_false,bd_s,dV,gd_T]
  rw[←p4,←nn]) (fun rec k=>by simp only[bM,cond_false])]
 rfl
theorem Io (a0:List D.aAK)(a1:Int)(h:bL (bF dF) (aA aU) a0 a1):pQ a0 a1=some (a1+((aA aU a0:Nat):Int)):=by
 have hlen:=iZ aGz a0
 have h1:=h.1
 have h2:=h.2.1
 unfold pQ
 rw[iB kJ h (by omega) (fun rec k i hi hP=>by
  clear h hlen h1 h2
  obtain⟨p1,p2,x,p3,p4⟩:=hP
  rw[←p4] at p2
  unfold aU at p2
  have b0:0≤k:=by omega
  have d0:k+1≤4611686018427387904:=by omega
  have b1:0≤k+1:=by omega
  have d1:k+1+1≤4611686018427387904:=by omega
  have b2:0≤k+1+1:=by omega
  have d2:k+1+1+1≤4611686018427387904:=by omega
  have nn:k+1+1+1=k+((aU x:Nat):Int):=by unfold aU;omega
  have e0:a0[i].Id=k:=by rw[p3];simp only[dF]
  have w0:IntKind.i64.wrap (k+1)=k+1:=aL b0 d0
  have e1:a0[i].aAF=(k+1):=by rw[p3];simp only[dF,w0]
  have w1:IntKind.i64.wrap (k+1+1)=k+1+1:=aL b1 d1
  have e2:a0[i].Until=(k+1+1):=by rw[p3];simp only[dF,w0,w1]
  have w2:IntKind.i64.wrap (k+1+1+1)=k+1+1+1:=aL b2 d2
  simp only[bJ hi,cond_true,aF hi,e0,w0,e1,w1,e2,w2,bne_self_eq_false,beq_self_eq_true,Bool.not_true,cond_false,bd_s,dV,gd_T]
  rw[←p4,←nn]) (fun rec k=>by simp only[bM,cond_false])]
 rfl
theorem aG9 (a0:List Int)(a1:Int)(h:bL (bF mkI) (aA fT) a0 a1):Hu a0 a1=some (a1+((aA fT a0:Nat):Int)):=by
 have hlen:=iZ (c:=fT) (fun _=>Nat.le_refl _) a0
 have h1:=h.1
 have h2:=h.2.1
 unfold Hu
 rw[iB aLo h (by omega) (fun rec k i hi hP=>by
  obtain⟨p1,p2,x,p3,_⟩:=hP
  have p2:k+1≤4611686018427387904:=by simpa[fT] using p2
  have e:a0[i]=k:=p3
  simp only[bJ hi,cond_true,aF hi,e,bne_self_eq_false,beq_self_eq_true,Bool.not_true,cond_false,bd_s,aL p1 p2,aB (show(3:Int)≠(0:Int) by omega)];rfl) (fun rec k=>by simp only[bM,cond_false])]
 rfl
theorem aB7 (a0:List D.Site)(a1:Int)(h:bL (bF gG) (aA cB) a0 a1):Cs a0 a1=some (a1+((aA cB a0:Nat):Int)):=by
 have hlen:=iZ aXv a0
 have h1:=h.1
 have h2:=h.2.1
 unfold Cs
 rw[iB wE h (by omega) (fun rec k i hi hP=>by
  clear h hlen h1 h2
  obtain⟨p1,p2,x,p3,p4⟩:=hP
  rw[←p4] at p2
  unfold cB at p2
  have b0:0≤k:=by omega
  have d0:k+1≤4611686018427387904:=by omega
  have z0:k≤4611686018427387904:=by omega
  have b1:0≤k+1:=by omega
  have d1:k+1+((aA aO x.Accounts:Nat):Int)≤4611686018427387904:=by omega
  have t1:decide (k+1+((aA aO x.Accounts:Nat):Int)<0)=false:=decide_eq_false (by omega)
  have b2:0≤k+1+((aA aO x.Accounts:Nat):Int):=by omega
  have d2:k+1+((aA aO x.Accounts:Nat):Int)+1≤4611686018427387904:=by omega
  have b3:0≤k+1+((aA aO x.Accounts:Nat):Int)+1:=by omega
  have d3:k+1+((aA aO x.Accounts:Nat):Int)+1+1≤4611686018427387904:=by omega
  have b4:0≤k+1+((aA aO x.Accounts:Nat):Int)+1+1:=by omega
  have d4:k+1+((aA aO x.Accounts:Nat):Int)+1+1+((aA aU x.Book.Open:Nat):Int)≤4611686018427387904:=by omega
  have t4:decide (k+1+((aA aO x.Accounts:Nat):Int)+1+1+((aA aU x.Book.Open:Nat):Int)<0)=false:=decide_eq_false (by omega)
  have b5:0≤k+1+((aA aO x.Accounts:Nat):Int)+1+1+((aA aU x.Book.Open:Nat):Int):=by omega
  have d5:k+1+((aA aO x.Accounts:Nat):Int)+1+1+((aA aU x.Book.Open:Nat):Int)+((aA fT x.Logins:Nat):Int)≤4611686018427387904:=by omega
  have t5:decide (k+1+((aA aO x.Accounts:Nat):Int)+1+1+((aA aU x.Book.Open:Nat):Int)+((aA fT x.Logins:Nat):Int)<0)=false:=decide_eq_false (by omega)
  have nn:k+1+((aA aO x.Accounts:Nat):Int)+1+1+((aA aU x.Book.Open:Nat):Int)+((aA fT x.Logins:Nat):Int)=k+((cB x:Nat):Int):=by unfold cB;omega
  have e0:a0[i].Name=(Ck k):=by rw[p3];simp only[gG]
  have s0:=aGb (k:=k) b0 z0
  have w0:IntKind.i64.wrap (k+1)=k+1:=aL b0 d0
  have f1:=bN mD x.Accounts (k+1) b1 d1
  have e1:a0[i].Accounts=(bF dM x.Accounts (k+1)).1:=by rw[p3];simp only[gG,w0]
  have m1:=f1.1
  have c1:aA aO a0[i].Accounts=aA aO x.Accounts:=by rw[e1];exact f1.2
  have h1:bL (bF dM) (aA aO) a0[i].Accounts (k+1):=fC b1 d1 e1 c1
  have e2:a0[i].Book.Seed=(k+1+((aA aO x.Accounts:Nat):Int)):=by rw[p3];simp only[gG,w0,m1]
  have w2:IntKind.i64.wrap (k+1+((aA aO x.Accounts:Nat):Int)+1)=k+1+((aA aO x.Accounts:Nat):Int)+1:=aL b2 d2
  have e3:a0[i].Book.Next=(k+1+((aA aO x.Accounts:Nat):Int)+1):=by rw[p3];simp only[gG,w0,m1,w2]
  have w3:IntKind.i64.wrap (k+1+((aA aO x.Accounts:Nat):Int)+1+1)=k+1+((aA aO x.Accounts:Nat):Int)+1+1:=aL b3 d3
  have f4:=bN kJ x.Book.Open (k+1+((aA aO x.Accounts:Nat):Int)+1+1) b4 d4
  have e4:a0[i].Book.Open=(bF dF x.Book.Open (k+1+((aA aO x.Accounts:Nat):Int)+1+1)).1:=by rw[p3];simp only[gG,w0,m1,w2,w3]
  have m4:=f4.1
  have c4:aA aU a0[i].Book.Open=aA aU x.Book.Open:=by rw[e4];exact f4.2
  have h4:bL (bF dF) (aA aU) a0[i].Book.Open (k+1+((aA aO x.Accounts:Nat):Int)+1+1):=fC b4 d4 e4 c4
  have f5:=bN aLo x.Logins (k+1+((aA aO x.Accounts:Nat):Int)+1+1+((aA aU x.Book.Open:Nat):Int)) b5 d5
  have e5:a0[i].Logins=(bF mkI x.Logins (k+1+((aA aO x.Accounts:Nat):Int)+1+1+((aA aU x.Book.Open:Nat):Int))).1:=by rw[p3];simp only[gG,w0,m1,w2,w3,m4]
  have m5:=f5.1
  have c5:aA fT a0[i].Logins=aA fT x.Logins:=by rw[e5];exact f5.2
  have h5:bL (bF mkI) (aA fT) a0[i].Logins (k+1+((aA aO x.Accounts:Nat):Int)+1+1+((aA aU x.Book.Open:Nat):Int)):=fC b5 d5 e5 c5
  simp only[bJ hi,cond_true,aF hi,s0,e0,w0,aB h1,c1,t1,e2,w2,e3,w3,aB h4,c4,t4,aB h5,c5,t5,bne_self_eq_false,beq_self_eq_true,Bool.not_true,cond_false,bd_s,dV,gd_T]
  rw[←p4,←nn]) (fun rec k=>by simp only[bM,cond_false])]
 rfl
theorem Wd (a0:List D.aAL)(a1:Int)(h:bL (bF eF) (aA bO) a0 a1):wJ a0 a1=some (a1+((aA bO a0:Nat):Int)):=by
 have hlen:=iZ aTh a0
 have h1:=h.1
 have h2:=h.2.1
 unfold wJ
 rw[iB oC h (by omega) (fun rec k i hi hP=>by
  clear h hlen h1 h2
  obtain⟨p1,p2,x,p3,p4⟩:=hP
  rw[←p4] at p2
  unfold bO at p2
  have b0:0≤k:=by omega
  have d0:k+1≤4611686018427387904:=by omega
  have b1:0≤k+1:=by omega
  have d1:k+1+1≤4611686018427387904:=by omega
  have b2:0≤k+1+1:=by omega
  have d2:k+1+1+1≤4611686018427387904:=by omega
  have b3:0≤k+1+1+1:=by omega
  have d3:k+1+1+1+1≤4611686018427387904:=by omega
  have b4:0≤k+1+1+1+1:=by omega
  have d4:k+1+1+1+1+1≤4611686018427387904:=by omega
  have nn:k+1+1+1+1+1=k+((bO x:Nat):Int):=by unfold bO;omega
  have e0:a0[i].aAM.Index=k:=by rw[p3];simp only[eF]
  have w0:IntKind.i64.wrap (k+1)=k+1:=aL b0 d0
  have e1:a0[i].aAM.Value=(k+1):=by rw[p3];simp only[eF,w0]
  have w1:IntKind.i64.wrap (k+1+1)=k+1+1:=aL b1 d1
  have e2:a0[i].Epoch=(k+1+1):=by rw[p3];simp only[eF,w0,w1]
  have w2:IntKind.i64.wrap (k+1+1+1)=k+1+1+1:=aL b2 d2
  have e3:a0[i].Guesses=(k+1+1+1):=by rw[p3];simp only[eF,w0,w1,w2]
  have w3:IntKind.i64.wrap (k+1+1+1+1)=k+1+1+1+1:=aL b3 d3
  have e4:a0[i].Limit=(k+1+1+1+1):=by rw[p3];simp only[eF,w0,w1,w2,w3]
  have w4:IntKind.i64.wrap (k+1+1+1+1+1)=k+1+1+1+1+1:=aL b4 d4
  simp only[bJ hi,cond_true,aF hi,e0,w0,e1,w1,e2,w2,e3,w3,e4,w4,bne_self_eq_false,beq_self_eq_true,Bool.not_true,cond_false,bd_s,dV,gd_T]
  rw[←p4,←nn]) (fun rec k=>by simp only[bM,cond_false])]
 rfl
theorem En (a0:List D.aAE)(a1:Int)(h:bL (bF bK) (aA aR) a0 a1):oG a0 a1=some (a1+((aA aR a0:Nat):Int)):=by
 have hlen:=iZ aBs a0
 have h1:=h.1
 have h2:=h.2.1
 unfold oG
 rw[iB jI h (by omega) (fun rec k i hi hP=>by
  clear h hlen h1 h2
  obtain⟨p1,p2,x,p3,p4⟩:=hP
  rw[←p4] at p2
  unfold aR at p2
  have b0:0≤k:=by omega
  have d0:k+1≤4611686018427387904:=by omega
  have b1:0≤k+1:=by omega
  have d1:k+1+1≤4611686018427387904:=by omega
  have b2:0≤k+1+1:=by omega
  have d2:k+1+1+1≤4611686018427387904:=by omega
  have b3:0≤k+1+1+1:=by omega
  have d3:k+1+1+1+1≤4611686018427387904:=by omega
  have b4:0≤k+1+1+1+1:=by omega
  have d4:k+1+1+1+1+1≤4611686018427387904:=by omega
  have b5:0≤k+1+1+1+1+1:=by omega
  have d5:k+1+1+1+1+1+((aA bO x.Saved:Nat):Int)≤4611686018427387904:=by omega
  have t5:decide (k+1+1+1+1+1+((aA bO x.Saved:Nat):Int)<0)=false:=decide_eq_false (by omega)
  have b6:0≤k+1+1+1+1+1+((aA bO x.Saved:Nat):Int):=by omega
  have d6:k+1+1+1+1+1+((aA bO x.Saved:Nat):Int)+1≤4611686018427387904:=by omega
  have nn:k+1+1+1+1+1+((aA bO x.Saved:Nat):Int)+1=k+((aR x:Nat):Int):=by unfold aR;omega
  have e0:a0[i].State.aAM.Index=k:=by rw[p3];simp only[bK]
  have w0:IntKind.i64.wrap (k+1)=k+1:=aL b0 d0
  have e1:a0[i].State.aAM.Value=(k+1):=by rw[p3];simp only[bK,w0]
  have w1:IntKind.i64.wrap (k+1+1)=k+1+1:=aL b1 d1
  have e2:a0[i].State.Epoch=(k+1+1):=by rw[p3];simp only[bK,w0,w1]
  have w2:IntKind.i64.wrap (k+1+1+1)=k+1+1+1:=aL b2 d2
  have e3:a0[i].State.Guesses=(k+1+1+1):=by rw[p3];simp only[bK,w0,w1,w2]
  have w3:IntKind.i64.wrap (k+1+1+1+1)=k+1+1+1+1:=aL b3 d3
  have e4:a0[i].State.Limit=(k+1+1+1+1):=by rw[p3];simp only[bK,w0,w1,w2,w3]
  have w4:IntKind.i64.wrap (k+1+1+1+1+1)=k+1+1+1+1+1:=aL b4 d4
  have f5:=bN oC x.Saved (k+1+1+1+1+1) b5 d5
  have e5:a0[i].Saved=(bF eF x.Saved (k+1+1+1+1+1)).1:=by rw[p3];simp only[bK,w0,w1,w2,w3,w4]
  have m5:=f5.1
  have c5:aA bO a0[i].Saved=aA bO x.Saved:=by rw[e5];exact f5.2
  have h5:bL (bF eF) (aA bO) a0[i].Saved (k+1+1+1+1+1):=fC b5 d5 e5 c5
  have e6:a0[i].Monotonic=(k+1+1+1+1+1+((aA bO x.Saved:Nat):Int)):=by rw[p3];simp only[bK,w0,w1,w2,w3,w4,m5]
  have w6:IntKind.i64.wrap (k+1+1+1+1+1+((aA bO x.Saved:Nat):Int)+1)=k+1+1+1+1+1+((aA bO x.Saved:Nat):Int)+1:=aL b6 d6
  simp only[bJ hi,cond_true,aF hi,e0,w0,e1,w1,e2,w2,e3,w3,e4,w4,aB h5,c5,t5,e6,w6,bne_self_eq_false,beq_self_eq_true,Bool.not_true,cond_false,bd_s,dV,gd_T]
  rw[←p4,←nn]) (fun rec k=>by simp only[bM,cond_false])]
 rfl
theorem We (a0:List D.aAP)(a1:Int)(h:bL (bF dX) (aA bU) a0 a1):wK a0 a1=some (a1+((aA bU a0:Nat):Int)):=by
 have hlen:=iZ aTj a0
 have h1:=h.1
 have h2:=h.2.1
 unfold wK
 rw[iB lL h (by omega) (fun rec k i hi hP=>by
  clear h hlen h1 h2
  obtain⟨p1,p2,x,p3,p4⟩:=hP
  rw[←p4] at p2
  unfold bU at p2
  have b0:0≤k:=by omega
  have d0:k+1≤4611686018427387904:=by omega
  have b1:0≤k+1:=by omega
  have d1:k+1+1≤4611686018427387904:=by omega
  have b2:0≤k+1+1:=by omega
  have d2:k+1+1+1≤4611686018427387904:=by omega
  have b3:0≤k+1+1+1:=by omega
  have d3:k+1+1+1+1≤4611686018427387904:=by omega
  have nn:k+1+1+1+1=k+((bU x:Nat):Int):=by unfold bU;omega
  have e0:a0[i].Kind=k:=by rw[p3];simp only[dX]
  have w0:IntKind.i64.wrap (k+1)=k+1:=aL b0 d0
  have e1:a0[i].aAF=(k+1):=by rw[p3];simp only[dX,w0]
  have w1:IntKind.i64.wrap (k+1+1)=k+1+1:=aL b1 d1
  have e2:a0[i].Time=(k+1+1):=by rw[p3];simp only[dX,w0,w1]
  have w2:IntKind.i64.wrap (k+1+1+1)=k+1+1+1:=aL b2 d2
  have e3:a0[i].Seen=((k+1+1+1).tmod 3==0):=by rw[p3];simp only[dX,w0,w1,w2]
  have w3:IntKind.i64.wrap (k+1+1+1+1)=k+1+1+1+1:=aL b3 d3
  simp only[bJ hi,cond_true,aF hi,e0,w0,e1,w1,e2,w2,e3,w3,bne_self_eq_false,beq_self_eq_true,Bool.not_true,cond_false,bd_s,dV,gd_T]
  rw[←p4,←nn]) (fun rec k=>by simp only[bM,cond_false])]
 rfl
theorem Wh (a0:D.aAO)(k:Int)(h:bL fG bB a0 k):wL a0 k=some (k+((bB a0:Nat):Int)):=by
 obtain⟨p1,p2,x,p3,p4⟩:=h
 rw[←p4] at p2
 unfold bB at p2
 have b0:0≤k:=by omega
 have d0:k+(((aA bU) x.Notices:Nat):Int)≤4611686018427387904:=by omega
 have t0:decide (k+(((aA bU) x.Notices:Nat):Int)<0)=false:=decide_eq_false (by omega)
 have nn:k+(((aA bU) x.Notices:Nat):Int)=k+((bB x:Nat):Int):=by simp only[bB]<;>omega
 have f0:=(bN lL) x.Notices k b0 d0
 have e0:a0.Notices=((bF dX) x.Notices k).1:=by rw[p3];simp only[fG]
 have m0:=f0.1
 have c0:(aA bU) a0.Notices=(aA bU) x.Notices:=by rw[e0];exact f0.2
 have h0:bL (bF dX) (aA bU) a0.Notices k:=fC b0 d0 e0 c0
 unfold wL
 simp only[aB h0,c0,t0,cond_false,bd_s]
 rw[←p4,←nn]
theorem aB8 (a0:D.World)(k:Int)(h:bL dK eQ a0 k):Ct a0 k=some (k+((eQ a0:Nat):Int)):=by
 obtain⟨p1,p2,x,p3,p4⟩:=h
 rw[←p4] at p2
 unfold eQ at p2
 have b0:0≤k:=by first|omega|(simp only[aX,bB];omega)
 have d0:k+(((aA aP) x.Devices:Nat):Int)≤4611686018427387904:=by first|omega|(simp only[aX,bB];omega)
 have t0:decide (k+(((aA aP) x.Devices:Nat):Int)<0)=false:=decide_eq_false (by first|omega|(simp only[aX,bB];omega))
 have b1:0≤k+(((aA aP) x.Devices:Nat):Int):=by first|omega|(simp only[aX,bB];omega)
 have d1:k+(((aA aP) x.Devices:Nat):Int)+(((aA fT) x.Stolen:Nat):Int)≤4611686018427387904:=by first|omega|(simp only[aX,bB];omega)
 have t1:decide (k+(((aA aP) x.Devices:Nat):Int)+(((aA fT) x.Stolen:Nat):Int)<0)=false:=decide_eq_false (by first|omega|(simp only[aX,bB];omega))
 have b2:0≤k+(((aA aP) x.Devices:Nat):Int)+(((aA fT) x.Stolen:Nat):Int):=by first|omega|(simp only[aX,bB];omega)
 have d2:k+(((aA aP) x.Devices:Nat):Int)+(((aA fT) x.Stolen:Nat):Int)+((aX x.aAJ:Nat):Int)≤4611686018427387904:=by first|omega|(simp only[aX,bB];omega)
 have t2:decide (k+(((aA aP) x.Devices:Nat):Int)+(((aA fT) x.Stolen:Nat):Int)+((aX x.aAJ:Nat):Int)<0)=false:=decide_eq_false (by first|omega|(simp only[aX,bB];omega))
 have b3:0≤k+(((aA aP) x.Devices:Nat):Int)+(((aA fT) x.Stolen:Nat):Int)+((aX x.aAJ:Nat):Int):=by first|omega|(simp only[aX,bB];omega)
 have d3:k+(((aA aP) x.Devices:Nat):Int)+(((aA fT) x.Stolen:Nat):Int)+((aX x.aAJ:Nat):Int)+(((aA cB) x.Sites:Nat):Int)≤4611686018427387904:=by first|omega|(simp only[aX,bB];omega)
 have t3:decide (k+(((aA aP) x.Devices:Nat):Int)+(((aA fT) x.Stolen:Nat):Int)+((aX x.aAJ:Nat):Int)+(((aA cB) x.Sites:Nat):Int)<0)=false:=decide_eq_false (by first|omega|(simp only[aX,bB];omega))
 have b4:0≤k+(((aA aP) x.Devices:Nat):Int)+(((aA fT) x.Stolen:Nat):Int)+((aX x.aAJ:Nat):Int)+(((aA cB) x.Sites:Nat):Int):=by first|omega|(simp only[aX,bB];omega)
 have d4:k+(((aA aP) x.Devices:Nat):Int)+(((aA fT) x.Stolen:Nat):Int)+((aX x.aAJ:Nat):Int)+(((aA cB) x.Sites:Nat):Int)+(((aA aR) x.Hosts:Nat):Int)≤4611686018427387904:=by first|omega|(simp only[aX,bB];omega)
 have t4:decide (k+(((aA aP) x.Devices:Nat):Int)+(((aA fT) x.Stolen:Nat):Int)+((aX x.aAJ:Nat):Int)+(((aA cB) x.Sites:Nat):Int)+(((aA aR) x.Hosts:Nat):Int)<0)=false:=decide_eq_false (by first|omega|(simp only[aX,bB];omega))
 have b5:0≤k+(((aA aP) x.Devices:Nat):Int)+(((aA fT) x.Stolen:Nat):Int)+((aX x.aAJ:Nat):Int)+(((aA cB) x.Sites:Nat):Int)+(((aA aR) x.Hosts:Nat):Int):=by first|omega|(simp only[aX,bB];omega)
 have d5:k+(((aA aP) x.Devices:Nat):Int)+(((aA fT) x.Stolen:Nat):Int)+((aX x.aAJ:Nat):Int)+(((aA cB) x.Sites:Nat):Int)+(((aA aR) x.Hosts:Nat):Int)+((bB x.Mail:Nat):Int)≤4611686018427387904:=by first|omega|(simp only[aX,bB];omega)
 have t5:decide (k+(((aA aP) x.Devices:Nat):Int)+(((aA fT) x.Stolen:Nat):Int)+((aX x.aAJ:Nat):Int)+(((aA cB) x.Sites:Nat):Int)+(((aA aR) x.Hosts:Nat):Int)+((bB x.Mail:Nat):Int)<0)=false:=decide_eq_false (by first|omega|(simp only[aX,bB];omega))
 have nn:k+(((aA aP) x.Devices:Nat):Int)+(((aA fT) x.Stolen:Nat):Int)+((aX x.aAJ:Nat):Int)+(((aA cB) x.Sites:Nat):Int)+(((aA aR) x.Hosts:Nat):Int)+((bB x.Mail:Nat):Int)=k+((eQ x:Nat):Int):=by simp only[eQ,aX,bB]<;>omega
 have f0:=(bN nY) x.Devices k b0 d0
 have e0:a0.Devices=((bF bW) x.Devices k).1:=by rw[p3];simp only[dK]
 have m0:=f0.1
 have c0:(aA aP) a0.Devices=(aA aP) x.Devices:=by rw[e0];exact f0.2
 have h0:bL (bF bW) (aA aP) a0.Devices k:=fC b0 d0 e0 c0
 have f1:=(bN aLp) x.Stolen (k+(((aA aP) x.Devices:Nat):Int)) b1 d1
 have e1:a0.Stolen=((bF mkB) x.Stolen (k+(((aA aP) x.Devices:Nat):Int))).1:=by rw[p3];simp only[dK,m0]
 have m1:=f1.1
 have c1:(aA fT) a0.Stolen=(aA fT) x.Stolen:=by rw[e1];exact f1.2
 have h1:bL (bF mkB) (aA fT) a0.Stolen (k+(((aA aP) x.Devices:Nat):Int)):=fC b1 d1 e1 c1
 have f2:=aV5 x.aAJ (k+(((aA aP) x.Devices:Nat):Int)+(((aA fT) x.Stolen:Nat):Int)) b2 d2
 have e2:a0.aAJ=(gT x.aAJ (k+(((aA aP) x.Devices:Nat):Int)+(((aA fT) x.Stolen:Nat):Int))).1:=by rw[p3];simp only[dK,gT,m0,m1]
 have m2:=f2.1
 simp only[gT,m0,m1] at m2
 have c2:aX a0.aAJ=aX x.aAJ:=by rw[e2];exact f2.2
 have h2:bL gT aX a0.aAJ (k+(((aA aP) x.Devices:Nat):Int)+(((aA fT) x.Stolen:Nat):Int)):=fC b2 d2 e2 c2
 have f3:=(bN wE) x.Sites (k+(((aA aP) x.Devices:Nat):Int)+(((aA fT) x.Stolen:Nat):Int)+((aX x.aAJ:Nat):Int)) b3 d3
 have e3:a0.Sites=((bF gG) x.Sites (k+(((aA aP) x.Devices:Nat):Int)+(((aA fT) x.Stolen:Nat):Int)+((aX x.aAJ:Nat):Int))).1:=by rw[p3];simp only[dK,m0,m1,m2]
 have m3:=f3.1
 have c3:(aA cB) a0.Sites=(aA cB) x.Sites:=by rw[e3];exact f3.2
 have h3:bL (bF gG) (aA cB) a0.Sites (k+(((aA aP) x.Devices:Nat):Int)+(((aA fT) x.Stolen:Nat):Int)+((aX x.aAJ:Nat):Int)):=fC b3 d3 e3 c3
 have f4:=(bN jI) x.Hosts (k+(((aA aP) x.Devices:Nat):Int)+(((aA fT) x.Stolen:Nat):Int)+((aX x.aAJ:Nat):Int)+(((aA cB) x.Sites:Nat):Int)) b4 d4
 have e4:a0.Hosts=((bF bK) x.Hosts (k+(((aA aP) x.Devices:Nat):Int)+(((aA fT) x.Stolen:Nat):Int)+((aX x.aAJ:Nat):Int)+(((aA cB) x.Sites:Nat):Int))).1:=by rw[p3];simp only[dK,m0,m1,m2,m3]
 have m4:=f4.1
 have c4:(aA aR) a0.Hosts=(aA aR) x.Hosts:=by rw[e4];exact f4.2
 have h4:bL (bF bK) (aA aR) a0.Hosts (k+(((aA aP) x.Devices:Nat):Int)+(((aA fT) x.Stolen:Nat):Int)+((aX x.aAJ:Nat):Int)+(((aA cB) x.Sites:Nat):Int)):=fC b4 d4 e4 c4
 have f5:=aPh x.Mail (k+(((aA aP) x.Devices:Nat):Int)+(((aA fT) x.Stolen:Nat):Int)+((aX x.aAJ:Nat):Int)+(((aA cB) x.Sites:Nat):Int)+(((aA aR) x.Hosts:Nat):Int)) b5 d5
 have e5:a0.Mail=(fG x.Mail (k+(((aA aP) x.Devices:Nat):Int)+(((aA fT) x.Stolen:Nat):Int)+((aX x.aAJ:Nat):Int)+(((aA cB) x.Sites:Nat):Int)+(((aA aR) x.Hosts:Nat):Int))).1:=by rw[p3];simp only[dK,fG,m0,m1,m2,m3,m4]
 have m5:=f5.1
 simp only[fG,m0,m1,m2,m3,m4] at m5
 have c5:bB a0.Mail=bB x.Mail:=by rw[e5];exact f5.2
 have h5:bL fG bB a0.Mail (k+(((aA aP) x.Devices:Nat):Int)+(((aA fT) x.Stolen:Nat):Int)+((aX x.aAJ:Nat):Int)+(((aA cB) x.Sites:Nat):Int)+(((aA aR) x.Hosts:Nat):Int)):=fC b5 d5 e5 c5
 unfold Ct
 simp only[aB h0,c0,t0,aB h1,c1,t1,aB h2,c2,t2,aB h3,c3,t3,aB h4,c4,t4,aB h5,c5,t5,cond_false,bd_s]
 rw[←p4,←nn]
end
end Go.VK
