import Derived.Test.YtefkjglmpmakcaaGreatDoorEVztor
/- Printed by wip/tools: models, walks, proofs. -/
set_option linter.unusedVariables false
set_option linter.unusedSimpArgs false
set_option maxRecDepth 100000
set_option maxHeartbeats 4000000
namespace Go.VK
open Go.RowKit Go.Proofs
structure D.Box where
 To:Int
 Ephemeral:Int
 Data:List Int
 MAC:Int
def D.Box.V (x:D.Box):List V:=[.int .i64 x.To, .int .i64 x.Ephemeral, .slice 1 (x.Data.map y8), .int .i64 x.MAC]
instance:Inhabited D.Box:=⟨⟨default,default,default,default⟩⟩
def D.Box.sz (x:D.Box):Nat:=x.Data.length
theorem D.Box.one (x:D.Box):eU x.V=true:=rfl
structure D.aAD where
 Epoch:Int
 Boxes:List D.Box
def D.aAD.V (x:D.aAD):List V:=[.int .i64 x.Epoch, .slice 4 (x.Boxes.map D.Box.V)]
instance:Inhabited D.aAD:=⟨⟨default,default⟩⟩
def D.aAD.sz (x:D.aAD):Nat:=x.Boxes.length+(x.Boxes.map D.Box.sz).sum
theorem D.aAD.one (x:D.aAD):eU x.V=true:=rfl
structure D.aAB where
 Index:Int
 Kind:Int
 Device:Int
 By:Int
 Previous:Int
 Signature:Int
def D.aAB.V (x:D.aAB):List V:=[.int .i64 x.Index, .int .i64 x.Kind, .int .i64 x.Device, .int .i64 x.By, .int .i64 x.Previous, .int .i64 x.Signature]
instance:Inhabited D.aAB:=⟨⟨default,default,default,default,default,default⟩⟩
def D.aAB.sz (x:D.aAB):Nat:=0
theorem D.aAB.one (x:D.aAB):eU x.V=true:=rfl
structure D.aAA where
 Epoch:Int
 Version:Int
 Data:List Int
 MAC:Int
def D.aAA.V (x:D.aAA):List V:=[.int .i64 x.Epoch, .int .i64 x.Version, .slice 1 (x.Data.map y8), .int .i64 x.MAC]
instance:Inhabited D.aAA:=⟨⟨default,default,default,default⟩⟩
def D.aAA.sz (x:D.aAA):Nat:=x.Data.length
theorem D.aAA.one (x:D.aAA):eU x.V=true:=rfl
structure D.aAJ where
 Log:List D.aAB
 Boxes:D.aAD
 History:List D.aAA
def D.aAJ.V (x:D.aAJ):List V:=[.slice 6 (x.Log.map D.aAB.V), .int .i64 x.Boxes.Epoch, .slice 4 (x.Boxes.Boxes.map D.Box.V), .slice 4 (x.History.map D.aAA.V)]
instance:Inhabited D.aAJ:=⟨⟨default,default,default⟩⟩
def D.aAJ.sz (x:D.aAJ):Nat:=x.Log.length+x.Boxes.Boxes.length+(x.Boxes.Boxes.map D.Box.sz).sum+x.History.length+(x.History.map D.aAA.sz).sum
theorem D.aAJ.one (x:D.aAJ):eU x.V=true:=rfl
structure D.aAQ where
 Salt:Int
 Threshold:Int
 Check:Int
 Masked:Int
def D.aAQ.V (x:D.aAQ):List V:=[.int .i64 x.Salt, .int .i64 x.Threshold, .int .i64 x.Check, .int .i64 x.Masked]
instance:Inhabited D.aAQ:=⟨⟨default,default,default,default⟩⟩
def D.aAQ.sz (x:D.aAQ):Nat:=0
theorem D.aAQ.one (x:D.aAQ):eU x.V=true:=rfl
structure D.aAP where
 Kind:Int
 aAF:Int
 Time:Int
 Seen:Bool
def D.aAP.V (x:D.aAP):List V:=[.int .i64 x.Kind, .int .i64 x.aAF, .int .i64 x.Time, .bool x.Seen]
instance:Inhabited D.aAP:=⟨⟨default,default,default,default⟩⟩
def D.aAP.sz (x:D.aAP):Nat:=0
theorem D.aAP.one (x:D.aAP):eU x.V=true:=rfl
structure D.aAO where
 Notices:List D.aAP
def D.aAO.V (x:D.aAO):List V:=[.slice 4 (x.Notices.map D.aAP.V)]
instance:Inhabited D.aAO:=⟨⟨default⟩⟩
def D.aAO.sz (x:D.aAO):Nat:=x.Notices.length
theorem D.aAO.one (x:D.aAO):eU x.V=true:=rfl
structure D.aAH where
 Vendor:Int
 Serial:Int
 Seed:Int
 Counter:Int
def D.aAH.V (x:D.aAH):List V:=[.int .i64 x.Vendor, .int .i64 x.Serial, .int .i64 x.Seed, .int .i64 x.Counter]
instance:Inhabited D.aAH:=⟨⟨default,default,default,default⟩⟩
def D.aAH.sz (x:D.aAH):Nat:=0
theorem D.aAH.one (x:D.aAH):eU x.V=true:=rfl
structure D.Entry where
 Site:Int
 Handle:Int
 Version:Int
 Deleted:Bool
def D.Entry.V (x:D.Entry):List V:=[.int .i64 x.Site, .int .i64 x.Handle, .int .i64 x.Version, .bool x.Deleted]
instance:Inhabited D.Entry:=⟨⟨default,default,default,default⟩⟩
def D.Entry.sz (x:D.Entry):Nat:=0
theorem D.Entry.one (x:D.Entry):eU x.V=true:=rfl
structure D.aAC where
 Entries:List D.Entry
def D.aAC.V (x:D.aAC):List V:=[.slice 4 (x.Entries.map D.Entry.V)]
instance:Inhabited D.aAC:=⟨⟨default⟩⟩
def D.aAC.sz (x:D.aAC):Nat:=x.Entries.length
theorem D.aAC.one (x:D.aAC):eU x.V=true:=rfl
structure D.Device where
 Store:D.aAH
 Log:List D.aAB
 Key:Int
 Epoch:Int
 Version:Int
 aAC:D.aAC
def D.Device.V (x:D.Device):List V:=[.int .i64 x.Store.Vendor, .int .i64 x.Store.Serial, .int .i64 x.Store.Seed, .int .i64 x.Store.Counter, .slice 6 (x.Log.map D.aAB.V), .int .i64 x.Key, .int .i64 x.Epoch, .int .i64 x.Version, .slice 4 (x.aAC.Entries.map D.Entry.V)]
instance:Inhabited D.Device:=⟨⟨default,default,default,default,default,default⟩⟩
def D.Device.sz (x:D.Device):Nat:=x.Log.length+x.aAC.Entries.length
theorem D.Device.one (x:D.Device):eU x.V=true:=rfl
structure D.aAI where
 Handle:Int
 Public:Int
 Counter:Int
 Cut:Bool
def D.aAI.V (x:D.aAI):List V:=[.int .i64 x.Handle, .int .i64 x.Public, .int .i64 x.Counter, .bool x.Cut]
instance:Inhabited D.aAI:=⟨⟨default,default,default,default⟩⟩
def D.aAI.sz (x:D.aAI):Nat:=0
theorem D.aAI.one (x:D.aAI):eU x.V=true:=rfl
structure D.aAF where
 Id:Int
 Minimum:Int
 Credentials:List D.aAI
def D.aAF.V (x:D.aAF):List V:=[.int .i64 x.Id, .int .i64 x.Minimum, .slice 4 (x.Credentials.map D.aAI.V)]
instance:Inhabited D.aAF:=⟨⟨default,default,default⟩⟩
def D.aAF.sz (x:D.aAF):Nat:=x.Credentials.length
theorem D.aAF.one (x:D.aAF):eU x.V=true:=rfl
structure D.aAK where
 Id:Int
 aAF:Int
 Until:Int
def D.aAK.V (x:D.aAK):List V:=[.int .i64 x.Id, .int .i64 x.aAF, .int .i64 x.Until]
instance:Inhabited D.aAK:=⟨⟨default,default,default⟩⟩
def D.aAK.sz (x:D.aAK):Nat:=0
theorem D.aAK.one (x:D.aAK):eU x.V=true:=rfl
structure D.aAG where
 Seed:Int
 Next:Int
 Open:List D.aAK
def D.aAG.V (x:D.aAG):List V:=[.int .i64 x.Seed, .int .i64 x.Next, .slice 3 (x.Open.map D.aAK.V)]
instance:Inhabited D.aAG:=⟨⟨default,default,default⟩⟩
def D.aAG.sz (x:D.aAG):Nat:=x.Open.length
theorem D.aAG.one (x:D.aAG):eU x.V=true:=rfl
structure D.Site where
 Name:ByteArray
 Accounts:List D.aAF
 Book:D.aAG
 Logins:List Int
def D.Site.V (x:D.Site):List V:=[.str x.Name, .slice 3 (x.Accounts.map D.aAF.V), .int .i64 x.Book.Seed, .int .i64 x.Book.Next, .slice 3 (x.Book.Open.map D.aAK.V), .slice 1 (x.Logins.map iV)]
instance:Inhabited D.Site:=⟨⟨default,default,default,default⟩⟩
def D.Site.sz (x:D.Site):Nat:=x.Name.size+x.Accounts.length+(x.Accounts.map D.aAF.sz).sum+x.Book.Open.length+x.Logins.length
theorem D.Site.one (x:D.Site):eU x.V=true:=rfl
structure D.aAM where
 Index:Int
 Value:Int
def D.aAM.V (x:D.aAM):List V:=[.int .i64 x.Index, .int .i64 x.Value]
instance:Inhabited D.aAM:=⟨⟨default,default⟩⟩
def D.aAM.sz (x:D.aAM):Nat:=0
theorem D.aAM.one (x:D.aAM):eU x.V=true:=rfl
structure D.aAL where
 aAM:D.aAM
 Epoch:Int
 Guesses:Int
 Limit:Int
def D.aAL.V (x:D.aAL):List V:=[.int .i64 x.aAM.Index, .int .i64 x.aAM.Value, .int .i64 x.Epoch, .int .i64 x.Guesses, .int .i64 x.Limit]
instance:Inhabited D.aAL:=⟨⟨default,default,default,default⟩⟩
def D.aAL.sz (x:D.aAL):Nat:=0
theorem D.aAL.one (x:D.aAL):eU x.V=true:=rfl
structure D.aAE where
 State:D.aAL
 Saved:List D.aAL
 Monotonic:Int
def D.aAE.V (x:D.aAE):List V:=[.int .i64 x.State.aAM.Index, .int .i64 x.State.aAM.Value, .int .i64 x.State.Epoch, .int .i64 x.State.Guesses, .int .i64 x.State.Limit, .slice 5 (x.Saved.map D.aAL.V), .int .i64 x.Monotonic]
instance:Inhabited D.aAE:=⟨⟨default,default,default⟩⟩
def D.aAE.sz (x:D.aAE):Nat:=x.Saved.length
theorem D.aAE.one (x:D.aAE):eU x.V=true:=rfl
structure D.World where
 Now:Int
 Seed:Int
 Devices:List D.Device
 Stolen:List Bool
 aAJ:D.aAJ
 Sites:List D.Site
 aAQ:D.aAQ
 Hosts:List D.aAE
 Pin:Int
 Mail:D.aAO
def D.World.V (x:D.World):List V:=[.int .i64 x.Now, .int .i64 x.Seed, .slice 9 (x.Devices.map D.Device.V), .slice 1 (x.Stolen.map bV), .slice 6 (x.aAJ.Log.map D.aAB.V), .int .i64 x.aAJ.Boxes.Epoch, .slice 4 (x.aAJ.Boxes.Boxes.map D.Box.V), .slice 4 (x.aAJ.History.map D.aAA.V), .slice 6 (x.Sites.map D.Site.V), .int .i64 x.aAQ.Salt, .int .i64 x.aAQ.Threshold, .int .i64 x.aAQ.Check, .int .i64 x.aAQ.Masked, .slice 7 (x.Hosts.map D.aAE.V), .int .i64 x.Pin, .slice 4 (x.Mail.Notices.map D.aAP.V)]
instance:Inhabited D.World:=⟨⟨default,default,default,default,default,default,default,default,default,default⟩⟩
def D.World.sz (x:D.World):Nat:=x.Devices.length+(x.Devices.map D.Device.sz).sum+x.Stolen.length+x.aAJ.Log.length+x.aAJ.Boxes.Boxes.length+(x.aAJ.Boxes.Boxes.map D.Box.sz).sum+x.aAJ.History.length+(x.aAJ.History.map D.aAA.sz).sum+x.Sites.length+(x.Sites.map D.Site.sz).sum+x.Hosts.length+(x.Hosts.map D.aAE.sz).sum+x.Mail.Notices.length
theorem D.World.one (x:D.World):eU x.V=true:=rfl
end Go.VK
