import Derived.Test.YtehmmnigkcmhoaaGreatDoorEVzbtor
/- Printed by wip/tools: models, walks, proofs. -/
set_option linter.unusedVariables false
set_option linter.unusedSimpArgs false
set_option maxRecDepth 100000
set_option maxHeartbeats 4000000
namespace Go.VK
open Go.RowKit Go.Proofs
structure D.Box where
 To:Int
 Ephemeral:Int
 Data:List Int
 MAC:Int
def D.Box.V (x:D.Box):List V:=[.int .i64 x.To, .int .i64 x.Ephemeral, .slice 1 (x.Data.map y8), .int .i64 x.MAC]
instance:Inhabited D.Box:=⟨⟨default,default,default,default⟩⟩
def D.Box.sz (x:D.Box):Nat:=x.Data.length
theorem D.Box.one (x:D.Box):dS x.V=true:=rfl
structure D.aAF where
 Epoch:Int
 Boxes:List D.Box
def D.aAF.V (x:D.aAF):List V:=[.int .i64 x.Epoch, .slice 4 (x.Boxes.map D.Box.V)]
instance:Inhabited D.aAF:=⟨⟨default,default⟩⟩
def D.aAF.sz (x:D.aAF):Nat:=x.Boxes.length+(x.Boxes.map D.Box.sz).sum
theorem D.aAF.one (x:D.aAF):dS x.V=true:=rfl
structure D.aAD where
 Index:Int
 Kind:Int
 Device:Int
 By:Int
 Previous:Int
 Signature:Int
def D.aAD.V (x:D.aAD):List V:=[.int .i64 x.Index, .int .i64 x.Kind, .int .i64 x.Device, .int .i64 x.By, .int .i64 x.Previous, .int .i64 x.Signature]
instance:Inhabited D.aAD:=⟨⟨default,default,default,default,default,default⟩⟩
def D.aAD.sz (x:D.aAD):Nat:=0
theorem D.aAD.one (x:D.aAD):dS x.V=true:=rfl
structure D.aAB where
 Epoch:Int
 Version:Int
 Data:List Int
 MAC:Int
def D.aAB.V (x:D.aAB):List V:=[.int .i64 x.Epoch, .int .i64 x.Version, .slice 1 (x.Data.map y8), .int .i64 x.MAC]
instance:Inhabited D.aAB:=⟨⟨default,default,default,default⟩⟩
def D.aAB.sz (x:D.aAB):Nat:=x.Data.length
theorem D.aAB.one (x:D.aAB):dS x.V=true:=rfl
structure D.aAJ where
 Log:List D.aAD
 Boxes:D.aAF
 History:List D.aAB
def D.aAJ.V (x:D.aAJ):List V:=[.slice 6 (x.Log.map D.aAD.V), .int .i64 x.Boxes.Epoch, .slice 4 (x.Boxes.Boxes.map D.Box.V), .slice 4 (x.History.map D.aAB.V)]
instance:Inhabited D.aAJ:=⟨⟨default,default,default⟩⟩
def D.aAJ.sz (x:D.aAJ):Nat:=x.Log.length+x.Boxes.Boxes.length+(x.Boxes.Boxes.map D.Box.sz).sum+x.History.length+(x.History.map D.aAB.sz).sum
theorem D.aAJ.one (x:D.aAJ):dS x.V=true:=rfl
structure D.aAQ where
 Salt:Int
 Threshold:Int
 Check:Int
 Masked:Int
def D.aAQ.V (x:D.aAQ):List V:=[.int .i64 x.Salt, .int .i64 x.Threshold, .int .i64 x.Check, .int .i64 x.Masked]
instance:Inhabited D.aAQ:=⟨⟨default,default,default,default⟩⟩
def D.aAQ.sz (x:D.aAQ):Nat:=0
theorem D.aAQ.one (x:D.aAQ):dS x.V=true:=rfl
structure D.aAM where
 Kind:Int
 aAE:Int
 Time:Int
 Seen:Bool
def D.aAM.V (x:D.aAM):List V:=[.int .i64 x.Kind, .int .i64 x.aAE, .int .i64 x.Time, .bool x.Seen]
instance:Inhabited D.aAM:=⟨⟨default,default,default,default⟩⟩
def D.aAM.sz (x:D.aAM):Nat:=0
theorem D.aAM.one (x:D.aAM):dS x.V=true:=rfl
structure D.aAI where
 Notices:List D.aAM
def D.aAI.V (x:D.aAI):List V:=[.slice 4 (x.Notices.map D.aAM.V)]
instance:Inhabited D.aAI:=⟨⟨default⟩⟩
def D.aAI.sz (x:D.aAI):Nat:=x.Notices.length
theorem D.aAI.one (x:D.aAI):dS x.V=true:=rfl
structure D.aAO where
 Vendor:Int
 Serial:Int
 Seed:Int
 Counter:Int
def D.aAO.V (x:D.aAO):List V:=[.int .i64 x.Vendor, .int .i64 x.Serial, .int .i64 x.Seed, .int .i64 x.Counter]
instance:Inhabited D.aAO:=⟨⟨default,default,default,default⟩⟩
def D.aAO.sz (x:D.aAO):Nat:=0
theorem D.aAO.one (x:D.aAO):dS x.V=true:=rfl
structure D.Entry where
 Site:Int
 Handle:Int
 Version:Int
 Deleted:Bool
def D.Entry.V (x:D.Entry):List V:=[.int .i64 x.Site, .int .i64 x.Handle, .int .i64 x.Version, .bool x.Deleted]
instance:Inhabited D.Entry:=⟨⟨default,default,default,default⟩⟩
def D.Entry.sz (x:D.Entry):Nat:=0
theorem D.Entry.one (x:D.Entry):dS x.V=true:=rfl
structure D.aAH where
 Entries:List D.Entry
def D.aAH.V (x:D.aAH):List V:=[.slice 4 (x.Entries.map D.Entry.V)]
instance:Inhabited D.aAH:=⟨⟨default⟩⟩
def D.aAH.sz (x:D.aAH):Nat:=x.Entries.length
theorem D.aAH.one (x:D.aAH):dS x.V=true:=rfl
structure D.Device where
 Store:D.aAO
 Log:List D.aAD
 Key:Int
 Epoch:Int
 Version:Int
 aAH:D.aAH
def D.Device.V (x:D.Device):List V:=[.int .i64 x.Store.Vendor, .int .i64 x.Store.Serial, .int .i64 x.Store.Seed, .int .i64 x.Store.Counter, .slice 6 (x.Log.map D.aAD.V), .int .i64 x.Key, .int .i64 x.Epoch, .int .i64 x.Version, .slice 4 (x.aAH.Entries.map D.Entry.V)]
instance:Inhabited D.Device:=⟨⟨default,default,default,default,default,default⟩⟩
def D.Device.sz (x:D.Device):Nat:=x.Log.length+x.aAH.Entries.length
theorem D.Device.one (x:D.Device):dS x.V=true:=rfl
structure D.aAG where
 Handle:Int
 Public:Int
 Counter:Int
 Cut:Bool
def D.aAG.V (x:D.aAG):List V:=[.int .i64 x.Handle, .int .i64 x.Public, .int .i64 x.Counter, .bool x.Cut]
instance:Inhabited D.aAG:=⟨⟨default,default,default,default⟩⟩
def D.aAG.sz (x:D.aAG):Nat:=0
theorem D.aAG.one (x:D.aAG):dS x.V=true:=rfl
structure D.aAE where
 Id:Int
 Minimum:Int
 Credentials:List D.aAG
def D.aAE.V (x:D.aAE):List V:=[.int .i64 x.Id, .int .i64 x.Minimum, .slice 4 (x.Credentials.map D.aAG.V)]
instance:Inhabited D.aAE:=⟨⟨default,default,default⟩⟩
def D.aAE.sz (x:D.aAE):Nat:=x.Credentials.length
theorem D.aAE.one (x:D.aAE):dS x.V=true:=rfl
structure D.aAK where
 Id:Int
 aAE:Int
 Until:Int
def D.aAK.V (x:D.aAK):List V:=[.int .i64 x.Id, .int .i64 x.aAE, .int .i64 x.Until]
instance:Inhabited D.aAK:=⟨⟨default,default,default⟩⟩
def D.aAK.sz (x:D.aAK):Nat:=0
theorem D.aAK.one (x:D.aAK):dS x.V=true:=rfl
structure D.aAC where
 Seed:Int
 Next:Int
 Open:List D.aAK
def D.aAC.V (x:D.aAC):List V:=[.int .i64 x.Seed, .int .i64 x.Next, .slice 3 (x.Open.map D.aAK.V)]
instance:Inhabited D.aAC:=⟨⟨default,default,default⟩⟩
def D.aAC.sz (x:D.aAC):Nat:=x.Open.length
theorem D.aAC.one (x:D.aAC):dS x.V=true:=rfl
structure D.Site where
 Name:ByteArray
 Accounts:List D.aAE
 Book:D.aAC
 Logins:List Int
def D.Site.V (x:D.Site):List V:=[.str x.Name, .slice 3 (x.Accounts.map D.aAE.V), .int .i64 x.Book.Seed, .int .i64 x.Book.Next, .slice 3 (x.Book.Open.map D.aAK.V), .slice 1 (x.Logins.map iV)]
instance:Inhabited D.Site:=⟨⟨default,default,default,default⟩⟩
def D.Site.sz (x:D.Site):Nat:=x.Name.size+x.Accounts.length+(x.Accounts.map D.aAE.sz).sum+x.Book.Open.length+x.Logins.length
theorem D.Site.one (x:D.Site):dS x.V=true:=rfl
structure D.aAN where
 Index:Int
 Value:Int
def D.aAN.V (x:D.aAN):List V:=[.int .i64 x.Index, .int .i64 x.Value]
instance:Inhabited D.aAN:=⟨⟨default,default⟩⟩
def D.aAN.sz (x:D.aAN):Nat:=0
theorem D.aAN.one (x:D.aAN):dS x.V=true:=rfl
structure D.aAL where
 aAN:D.aAN
 Epoch:Int
 Guesses:Int
 Limit:Int
def D.aAL.V (x:D.aAL):List V:=[.int .i64 x.aAN.Index, .int .i64 x.aAN.Value, .int .i64 x.Epoch, .int .i64 x.Guesses, .int .i64 x.Limit]
instance:Inhabited D.aAL:=⟨⟨default,default,default,default⟩⟩
def D.aAL.sz (x:D.aAL):Nat:=0
theorem D.aAL.one (x:D.aAL):dS x.V=true:=rfl
structure D.aAA where
 State:D.aAL
 Saved:List D.aAL
 Monotonic:Int
def D.aAA.V (x:D.aAA):List V:=[.int .i64 x.State.aAN.Index, .int .i64 x.State.aAN.Value, .int .i64 x.State.Epoch, .int .i64 x.State.Guesses, .int .i64 x.State.Limit, .slice 5 (x.Saved.map D.aAL.V), .int .i64 x.Monotonic]
instance:Inhabited D.aAA:=⟨⟨default,default,default⟩⟩
def D.aAA.sz (x:D.aAA):Nat:=x.Saved.length
theorem D.aAA.one (x:D.aAA):dS x.V=true:=rfl
structure D.World where
 Now:Int
 Seed:Int
 Devices:List D.Device
 Stolen:List Bool
 aAJ:D.aAJ
 Sites:List D.Site
 aAQ:D.aAQ
 Hosts:List D.aAA
 Pin:Int
 Mail:D.aAI
def D.World.V (x:D.World):List V:=[.int .i64 x.Now, .int .i64 x.Seed, .slice 9 (x.Devices.map D.Device.V), .slice 1 (x.Stolen.map bV), .slice 6 (x.aAJ.Log.map D.aAD.V), .int .i64 x.aAJ.Boxes.Epoch, .slice 4 (x.aAJ.Boxes.Boxes.map D.Box.V), .slice 4 (x.aAJ.History.map D.aAB.V), .slice 6 (x.Sites.map D.Site.V), .int .i64 x.aAQ.Salt, .int .i64 x.aAQ.Threshold, .int .i64 x.aAQ.Check, .int .i64 x.aAQ.Masked, .slice 7 (x.Hosts.map D.aAA.V), .int .i64 x.Pin, .slice 4 (x.Mail.Notices.map D.aAM.V)]
instance:Inhabited D.World:=⟨⟨default,default,default,default,default,default,default,default,default,default⟩⟩
def D.World.sz (x:D.World):Nat:=x.Devices.length+(x.Devices.map D.Device.sz).sum+x.Stolen.length+x.aAJ.Log.length+x.aAJ.Boxes.Boxes.length+(x.aAJ.Boxes.Boxes.map D.Box.sz).sum+x.aAJ.History.length+(x.aAJ.History.map D.aAB.sz).sum+x.Sites.length+(x.Sites.map D.Site.sz).sum+x.Hosts.length+(x.Hosts.map D.aAA.sz).sum+x.Mail.Notices.length
theorem D.World.one (x:D.World):dS x.V=true:=rfl
end Go.VK
