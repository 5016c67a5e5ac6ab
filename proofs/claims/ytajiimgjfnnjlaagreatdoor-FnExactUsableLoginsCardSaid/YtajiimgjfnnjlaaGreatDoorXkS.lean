import Derived.Test.YtajiimgjfnnjlaaGreatDoorEVzbtor
/- Printed by wip/tools: models, walks, proofs. -/
set_option linter.unusedVariables false
set_option linter.unusedSimpArgs false
set_option maxRecDepth 100000
set_option maxHeartbeats 4000000
namespace Go.VK
open Go.RowKit Go.Proofs
structure D.Box where
 To:Int
 Ephemeral:Int
 Data:List Int
 MAC:Int
def D.Box.V (x:D.Box):List V:=[.int .i64 x.To, .int .i64 x.Ephemeral, .slice 1 (x.Data.map y8), .int .i64 x.MAC]
instance:Inhabited D.Box:=⟨⟨default,default,default,default⟩⟩
def D.Box.sz (x:D.Box):Nat:=x.Data.length
theorem D.Box.one (x:D.Box):bN x.V=true:=rfl
structure D.aAF where
 Epoch:Int
 Boxes:List D.Box
def D.aAF.V (x:D.aAF):List V:=[.int .i64 x.Epoch, .slice 4 (x.Boxes.map D.Box.V)]
instance:Inhabited D.aAF:=⟨⟨default,default⟩⟩
def D.aAF.sz (x:D.aAF):Nat:=x.Boxes.length+(x.Boxes.map D.Box.sz).sum
theorem D.aAF.one (x:D.aAF):bN x.V=true:=rfl
structure D.aAE where
 Index:Int
 Kind:Int
 Device:Int
 By:Int
 Previous:Int
 Signature:Int
def D.aAE.V (x:D.aAE):List V:=[.int .i64 x.Index, .int .i64 x.Kind, .int .i64 x.Device, .int .i64 x.By, .int .i64 x.Previous, .int .i64 x.Signature]
instance:Inhabited D.aAE:=⟨⟨default,default,default,default,default,default⟩⟩
def D.aAE.sz (x:D.aAE):Nat:=0
theorem D.aAE.one (x:D.aAE):bN x.V=true:=rfl
structure D.aAB where
 Epoch:Int
 Version:Int
 Data:List Int
 MAC:Int
def D.aAB.V (x:D.aAB):List V:=[.int .i64 x.Epoch, .int .i64 x.Version, .slice 1 (x.Data.map y8), .int .i64 x.MAC]
instance:Inhabited D.aAB:=⟨⟨default,default,default,default⟩⟩
def D.aAB.sz (x:D.aAB):Nat:=x.Data.length
theorem D.aAB.one (x:D.aAB):bN x.V=true:=rfl
structure D.aAO where
 Log:List D.aAE
 Boxes:D.aAF
 History:List D.aAB
def D.aAO.V (x:D.aAO):List V:=[.slice 6 (x.Log.map D.aAE.V), .int .i64 x.Boxes.Epoch, .slice 4 (x.Boxes.Boxes.map D.Box.V), .slice 4 (x.History.map D.aAB.V)]
instance:Inhabited D.aAO:=⟨⟨default,default,default⟩⟩
def D.aAO.sz (x:D.aAO):Nat:=x.Log.length+x.Boxes.Boxes.length+(x.Boxes.Boxes.map D.Box.sz).sum+x.History.length+(x.History.map D.aAB.sz).sum
theorem D.aAO.one (x:D.aAO):bN x.V=true:=rfl
structure D.aAR where
 Salt:Int
 Threshold:Int
 Check:Int
 Masked:Int
def D.aAR.V (x:D.aAR):List V:=[.int .i64 x.Salt, .int .i64 x.Threshold, .int .i64 x.Check, .int .i64 x.Masked]
instance:Inhabited D.aAR:=⟨⟨default,default,default,default⟩⟩
def D.aAR.sz (x:D.aAR):Nat:=0
theorem D.aAR.one (x:D.aAR):bN x.V=true:=rfl
structure D.aAM where
 Kind:Int
 aAD:Int
 Time:Int
 Seen:Bool
def D.aAM.V (x:D.aAM):List V:=[.int .i64 x.Kind, .int .i64 x.aAD, .int .i64 x.Time, .bool x.Seen]
instance:Inhabited D.aAM:=⟨⟨default,default,default,default⟩⟩
def D.aAM.sz (x:D.aAM):Nat:=0
theorem D.aAM.one (x:D.aAM):bN x.V=true:=rfl
structure D.aAI where
 Notices:List D.aAM
def D.aAI.V (x:D.aAI):List V:=[.slice 4 (x.Notices.map D.aAM.V)]
instance:Inhabited D.aAI:=⟨⟨default⟩⟩
def D.aAI.sz (x:D.aAI):Nat:=x.Notices.length
theorem D.aAI.one (x:D.aAI):bN x.V=true:=rfl
structure D.aAL where
 Vendor:Int
 Serial:Int
 Seed:Int
 Counter:Int
def D.aAL.V (x:D.aAL):List V:=[.int .i64 x.Vendor, .int .i64 x.Serial, .int .i64 x.Seed, .int .i64 x.Counter]
instance:Inhabited D.aAL:=⟨⟨default,default,default,default⟩⟩
def D.aAL.sz (x:D.aAL):Nat:=0
theorem D.aAL.one (x:D.aAL):bN x.V=true:=rfl
structure D.Entry where
 Site:Int
 Handle:Int
 Version:Int
 Deleted:Bool
def D.Entry.V (x:D.Entry):List V:=[.int .i64 x.Site, .int .i64 x.Handle, .int .i64 x.Version, .bool x.Deleted]
instance:Inhabited D.Entry:=⟨⟨default,default,default,default⟩⟩
def D.Entry.sz (x:D.Entry):Nat:=0
theorem D.Entry.one (x:D.Entry):bN x.V=true:=rfl
structure D.aAN where
 Entries:List D.Entry
def D.aAN.V (x:D.aAN):List V:=[.slice 4 (x.Entries.map D.Entry.V)]
instance:Inhabited D.aAN:=⟨⟨default⟩⟩
def D.aAN.sz (x:D.aAN):Nat:=x.Entries.length
theorem D.aAN.one (x:D.aAN):bN x.V=true:=rfl
structure D.Device where
 Store:D.aAL
 Log:List D.aAE
 Key:Int
 Epoch:Int
 Version:Int
 aAN:D.aAN
def D.Device.V (x:D.Device):List V:=[.int .i64 x.Store.Vendor, .int .i64 x.Store.Serial, .int .i64 x.Store.Seed, .int .i64 x.Store.Counter, .slice 6 (x.Log.map D.aAE.V), .int .i64 x.Key, .int .i64 x.Epoch, .int .i64 x.Version, .slice 4 (x.aAN.Entries.map D.Entry.V)]
instance:Inhabited D.Device:=⟨⟨default,default,default,default,default,default⟩⟩
def D.Device.sz (x:D.Device):Nat:=x.Log.length+x.aAN.Entries.length
theorem D.Device.one (x:D.Device):bN x.V=true:=rfl
structure D.aAH where
 Handle:Int
 Public:Int
 Counter:Int
 Cut:Bool
def D.aAH.V (x:D.aAH):List V:=[.int .i64 x.Handle, .int .i64 x.Public, .int .i64 x.Counter, .bool x.Cut]
instance:Inhabited D.aAH:=⟨⟨default,default,default,default⟩⟩
def D.aAH.sz (x:D.aAH):Nat:=0
theorem D.aAH.one (x:D.aAH):bN x.V=true:=rfl
structure D.aAD where
 Id:Int
 Minimum:Int
 Credentials:List D.aAH
def D.aAD.V (x:D.aAD):List V:=[.int .i64 x.Id, .int .i64 x.Minimum, .slice 4 (x.Credentials.map D.aAH.V)]
instance:Inhabited D.aAD:=⟨⟨default,default,default⟩⟩
def D.aAD.sz (x:D.aAD):Nat:=x.Credentials.length
theorem D.aAD.one (x:D.aAD):bN x.V=true:=rfl
structure D.aAG where
 Id:Int
 aAD:Int
 Until:Int
def D.aAG.V (x:D.aAG):List V:=[.int .i64 x.Id, .int .i64 x.aAD, .int .i64 x.Until]
instance:Inhabited D.aAG:=⟨⟨default,default,default⟩⟩
def D.aAG.sz (x:D.aAG):Nat:=0
theorem D.aAG.one (x:D.aAG):bN x.V=true:=rfl
structure D.aAA where
 Seed:Int
 Next:Int
 Open:List D.aAG
def D.aAA.V (x:D.aAA):List V:=[.int .i64 x.Seed, .int .i64 x.Next, .slice 3 (x.Open.map D.aAG.V)]
instance:Inhabited D.aAA:=⟨⟨default,default,default⟩⟩
def D.aAA.sz (x:D.aAA):Nat:=x.Open.length
theorem D.aAA.one (x:D.aAA):bN x.V=true:=rfl
structure D.Site where
 Name:ByteArray
 Accounts:List D.aAD
 Book:D.aAA
 Logins:List Int
def D.Site.V (x:D.Site):List V:=[.str x.Name, .slice 3 (x.Accounts.map D.aAD.V), .int .i64 x.Book.Seed, .int .i64 x.Book.Next, .slice 3 (x.Book.Open.map D.aAG.V), .slice 1 (x.Logins.map iV)]
instance:Inhabited D.Site:=⟨⟨default,default,default,default⟩⟩
def D.Site.sz (x:D.Site):Nat:=x.Name.size+x.Accounts.length+(x.Accounts.map D.aAD.sz).sum+x.Book.Open.length+x.Logins.length
theorem D.Site.one (x:D.Site):bN x.V=true:=rfl
structure D.aAT where
 Index:Int
 Value:Int
def D.aAT.V (x:D.aAT):List V:=[.int .i64 x.Index, .int .i64 x.Value]
instance:Inhabited D.aAT:=⟨⟨default,default⟩⟩
def D.aAT.sz (x:D.aAT):Nat:=0
theorem D.aAT.one (x:D.aAT):bN x.V=true:=rfl
structure D.aAQ where
 aAT:D.aAT
 Epoch:Int
 Guesses:Int
 Limit:Int
def D.aAQ.V (x:D.aAQ):List V:=[.int .i64 x.aAT.Index, .int .i64 x.aAT.Value, .int .i64 x.Epoch, .int .i64 x.Guesses, .int .i64 x.Limit]
instance:Inhabited D.aAQ:=⟨⟨default,default,default,default⟩⟩
def D.aAQ.sz (x:D.aAQ):Nat:=0
theorem D.aAQ.one (x:D.aAQ):bN x.V=true:=rfl
structure D.aAC where
 State:D.aAQ
 Saved:List D.aAQ
 Monotonic:Int
def D.aAC.V (x:D.aAC):List V:=[.int .i64 x.State.aAT.Index, .int .i64 x.State.aAT.Value, .int .i64 x.State.Epoch, .int .i64 x.State.Guesses, .int .i64 x.State.Limit, .slice 5 (x.Saved.map D.aAQ.V), .int .i64 x.Monotonic]
instance:Inhabited D.aAC:=⟨⟨default,default,default⟩⟩
def D.aAC.sz (x:D.aAC):Nat:=x.Saved.length
theorem D.aAC.one (x:D.aAC):bN x.V=true:=rfl
structure D.World where
 Now:Int
 Seed:Int
 Devices:List D.Device
 Stolen:List Bool
 aAO:D.aAO
 Sites:List D.Site
 aAR:D.aAR
 Hosts:List D.aAC
 Pin:Int
 Mail:D.aAI
def D.World.V (x:D.World):List V:=[.int .i64 x.Now, .int .i64 x.Seed, .slice 9 (x.Devices.map D.Device.V), .slice 1 (x.Stolen.map bV), .slice 6 (x.aAO.Log.map D.aAE.V), .int .i64 x.aAO.Boxes.Epoch, .slice 4 (x.aAO.Boxes.Boxes.map D.Box.V), .slice 4 (x.aAO.History.map D.aAB.V), .slice 6 (x.Sites.map D.Site.V), .int .i64 x.aAR.Salt, .int .i64 x.aAR.Threshold, .int .i64 x.aAR.Check, .int .i64 x.aAR.Masked, .slice 7 (x.Hosts.map D.aAC.V), .int .i64 x.Pin, .slice 4 (x.Mail.Notices.map D.aAM.V)]
instance:Inhabited D.World:=⟨⟨default,default,default,default,default,default,default,default,default,default⟩⟩
def D.World.sz (x:D.World):Nat:=x.Devices.length+(x.Devices.map D.Device.sz).sum+x.Stolen.length+x.aAO.Log.length+x.aAO.Boxes.Boxes.length+(x.aAO.Boxes.Boxes.map D.Box.sz).sum+x.aAO.History.length+(x.aAO.History.map D.aAB.sz).sum+x.Sites.length+(x.Sites.map D.Site.sz).sum+x.Hosts.length+(x.Hosts.map D.aAC.sz).sum+x.Mail.Notices.length
theorem D.World.one (x:D.World):bN x.V=true:=rfl
structure D.aAK where
 Secure:Bool
 Host:ByteArray
 Port:Int
def D.aAK.V (x:D.aAK):List V:=[.bool x.Secure, .str x.Host, .int .i64 x.Port]
instance:Inhabited D.aAK:=⟨⟨default,default,default⟩⟩
def D.aAK.sz (x:D.aAK):Nat:=x.Host.size
theorem D.aAK.one (x:D.aAK):bN x.V=true:=rfl
structure D.aAJ where
 Site:ByteArray
 aAK:ByteArray
 aAG:Int
 Handle:Int
 Present:Bool
 Counter:Int
 Signature:Int
def D.aAJ.V (x:D.aAJ):List V:=[.str x.Site, .str x.aAK, .int .i64 x.aAG, .int .i64 x.Handle, .bool x.Present, .int .i64 x.Counter, .int .i64 x.Signature]
instance:Inhabited D.aAJ:=⟨⟨default,default,default,default,default,default,default⟩⟩
def D.aAJ.sz (x:D.aAJ):Nat:=x.Site.size+x.aAK.size
theorem D.aAJ.one (x:D.aAJ):bN x.V=true:=rfl
end Go.VK
